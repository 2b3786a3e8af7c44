import PyProof.Rows.All
import OpenK.KWalk
import Open.Tree
import Wide.FinOn
import PyProof.DictStraight
import PySem.PyData
import PyProof.SameEqv
import Wide.Seal
import PyProof.DictRoadsH
import PyProof.Rows.TupTab
import PyProof.P3Eq
import PyProof.Rows.RowHeap
import PyProof.Cells
import KE.KEqDict
import KE.KIntText
import PyProof.ZipIter
import PyProof.TupleIter
import PyProof.Rows.ZipGen
import KE.KDictOf
import PyProof.AttrMissSeq
import PyProof.RaisesMany
import PyProof.EnumStmt
import PyProof.DictDisplay
import PyProof.ForAny
import PyProof.NsDelKeeps
import PyProof.Rows.OwnQ
import PyProof.ExcClass3
import KE.KTryMore
import PySem.Challenge.RW_uf010005_13
set_option maxRecDepth 100000
set_option linter.unusedVariables false
set_option linter.unusedSimpArgs false
set_option linter.unusedSectionVars false
set_option Elab.async false
set_option tactic.hygienic false
set_option genSizeOf false
set_option genInjectivity false
set_option genCtorIdx false
set_option bootstrap.genMatcherCode false
open List (append_nil append_assoc all_eq_true map_cons map_nil mem_cons mem_singleton replicate all_cons forIn_cons find?_cons any_cons foldl mem_map count_cons zipIdx_cons tail_drop getElem?_toArray getElem?_eq_none drop_zero nodup_cons mem_filterMap nodup_append getElem_mem length_nil length_zip cons_append mem_append contains_iff_mem getElem_range mem_range zip_cons_cons Pairwise length_pos_iff Nodup zip_nil_right mem_filter length_take Sublist map_map nodup_nil any_eq_true pairwise_map length prefix_refl filter of_mem_zip zip_map_left zip_nil_left head?_drop)
open Nat (add_comm le_max_left le_max_right add_le_add_left min_le_left mul_comm log2_lt not_lt_zero lt_of_succ_lt_succ le_succ lt_succ_self le_of_succ_le le_of_lt succ_le_succ min_self min_eq_left max_le mod_lt)
open Array (forIn_toList all_toList size_append length_toList)
open Option (map_eq_some_iff isSome_iff_exists)
open PySem.PyData (eqv depthAll rec eqvAll str canLayAll0 canLay0 depth int list tuple dict)
open Bool (and_eq_true_iff false_eq_true noConfusion or_eq_true_iff)
open Int (mul_zero mul_add natCast_add mul_nonneg ofNat_le ofNat_lt reduceNeg)
open PySem.Value (builtin type)
open PySem.Calls (docDef callWith_builtin spliced_nil)
namespace Internal
section
abbrev VP:=PySem.Addr->Option Nat
abbrev VQ:=PySem.Addr->Prop
abbrev VR:=PySem.Value->PySem.Shared->Prop
abbrev VS:=List Nat
abbrev VT:=List PySem.Str
abbrev VU:=List PySem.Value
abbrev VV:=List PySem.Expr
abbrev VW:=Except PySem.Str
abbrev VX:=List PySem.PyData
abbrev VY:=List (PySem.PyData×PySem.PyData)
variable {α β ε:Type}{a fa dx:PySem.Addr}{e g cX aH ea eb cM:PySem.Expr}{f i j n tk kk:Nat}{o ox:PySem.Obj}{ns ct rb pin:VS}{m:PySem.Str->Option PySem.Value}{body:List PySem.Stmt}{h h' h₀:PySem.Heap}{A:PySem.Around}{es:VV}{Z Z' fs:VQ}{b':Bool}{s':PySem.Shared}{E:VR}{VN:PySem.Env}{pos p' fC ap px:PySem.Pos}{nm:PySem.Str}{ag:VP}{ki:PySem.Sem PySem.Value}{fp:List PySem.Addr}{kL:List (Option PySem.Expr)}{scope:PySem.Scope}{hs:List PySem.ExceptHandler}
section
open PySem PySem.W
namespace Ht
section
variable {tb:String->Option Builtin}{p:Program}{w:World}{qE:Nat}{Hy:Option Value}
noncomputable def DE(tb:String->Option Builtin)(p:Program)(w:World)(qE:Nat)(Hy:Option Value):Nat->SharedT->Thread->Option SharedT
 |0,_,_=>none
 |n+1,s,t=>match through t with
  |true=>some s
  |false=>match stepOk qE Hy t with
   |false=>none
   |true=>match stepT (denote tb) p w s t with
    |some (s',t')=>DE tb p w qE Hy n s' t'
    |none=>none
theorem yU:∀{n:Nat}{s s':SharedT}{t:Thread},DE tb p w qE Hy n s t=some s'->topRun tb p w qE Hy n s.abs t=some s'.abs
 |0,_,_,_,h=>by cases h
 |n+1,s,s',t,h=>by
  have h:(match through t with
  |true=>some s
  |false=>match stepOk qE Hy t with
   |false=>none
   |true=>match stepT (denote tb) p w s t with
    |some (s',t')=>DE tb p w qE Hy n s' t'
    |none=>none)=some s':=h
  unfold topRun;cases he:through t with
  |true=>rw[he]at h;cases h;rfl
  |false=>rw[he]at h;cases hk:stepOk qE Hy t with
   |false=>rw[hk]at h;cases h
   |true=>rw[hk]at h;cases hs:stepT (denote tb) p w s t with
    |none=>rw[hs]at h;cases h
    |some r=>obtain⟨aC,T8⟩:=r;rw[hs]at h;rw[stepT_spec hs];exact yU h
noncomputable def load:List Obj->BT->Nat->Option BT
 |[],t,_=>some t
 |o::r,t,n=>match ((t.ins n o).get n).isSome with
  |true=>load r (t.ins n o)<|n+1
  |false=>none
theorem va{life:Life}:∀{l:List Obj}{t t':BT}{n:Nat},load l t n=some t'->absHeap t' (n+l.length) life=⟨((absHeap t n life).objs.toList++l).toArray,life⟩
 |[],t,t',n,h=>by cases h;rw[append_nil];rfl
 |o::r,t,t',n,h=>by
  have h:(match ((t.ins n o).get n).isSome with
  |true=>load r (t.ins n o)<|n+1
  |false=>none)=some t':=h
  cases hg:((t.ins n o).get n).isSome with
  |false=>rw[hg]at h;cases h
  |true=>
   rw[hg]at h;have:=va (life:=life) h;rw[absHeap_ins hg]at this;rw[show n+(o::r).length=n+1+r.length by simp[add_comm,Nat.add_left_comm],this];congr 1;show(((absHeap t n life).objs.push o).toList++r).toArray=_
   rw[Array.toList_push,append_assoc];rfl
noncomputable def Br(tb:String->Option Builtin)(p:Program)(w:World)(N:Nat):Option Shared:=
 match fencedOpening tb p w N with
 |none=>none
 |some s₀=>match s₀.heap.isNs mainGlobals&&s₀.gens.size==0 with
  |false=>none
  |true=>match load s₀.heap.objs.toList .nil 0 with
   |none=>none
   | some t₀=>match DE tb p w s₀.heap.objs.size (s₀.heap.nsMap mainGlobals "__annotations__") N ⟨t₀,0+s₀.heap.objs.toList.length,s₀.heap.life,s₀.gens,s₀.drawn,s₀.toks,s₀.os⟩ (topStub p) with
    |none=>none
    |some s=>match staticsOk (importedModules p.main.body) s₀.heap s.abs.heap&&namesBound p s.abs.heap&&gensDone s.abs&&laidKept s₀.heap s.abs.heap with
     |true=>some s.abs
     |false=>none
set_option tactic.hygienic true in
theorem Fj{N:Nat}{s₁:Shared}(h:Br tb p w N=some s₁):openEnds tb p w N=some s₁:=by unfold Br at h;unfold openEnds;cases hf:fencedOpening tb p w N with
 |none=>rw[hf]at h;cases h
 |some s₀=>
  rw[hf]at h;show topFrom tb p w N s₀=some s₁
  unfold topFrom;dsimp only at h;cases hc:s₀.heap.isNs mainGlobals&&s₀.gens.size==0 with
  |false=>rw[hc]at h;cases h
  |true=>rw[hc]at h;dsimp only at h ⊢;cases hl:load s₀.heap.objs.toList .nil 0 with
   |none=>rw[hl]at h;cases h
   |some t₀=>
    rw[hl]at h;dsimp only at h;split at h
    .cases h
    .rename_i s hr;have hr:=yU hr;have e:SharedT.abs ⟨t₀,0+s₀.heap.objs.toList.length,s₀.heap.life,s₀.gens,s₀.drawn,s₀.toks,s₀.os⟩=s₀:=by unfold SharedT.abs;dsimp only;rw[va hl];rfl
     rw[e]at hr;rw[hr];exact h
end
theorem leftT{p q:Program}{loose:VT}{Xt:Shared->Bool}{α:Type}{Yf:Shared->α}{Ya:World->α}{N:Nat}{g0:Bool}
  (h:∀w,(Br treeTable p w N).map (λs=>(openSeen q loose (importedModules p.main.body) Xt g0 s,Yf s))=some (openGood q loose,Ya w)):LeftO p q loose Xt Yf Ya N g0:=λw=>by
 obtain⟨s,e,e'⟩:=map_eq_some_iff.mp<|h w;rw[Fj e];exact congrArg some e'
end Ht
end
section
open PySem PySem.W PyProof.Rows
set_option maxHeartbeats 8000000
namespace Hq
abbrev row:=PySem.Challenge.rw_uf010005_13.row
abbrev p:Program:=RowW.prog<|OpenRow.toRowW row
noncomputable def view:Program:= {p with main:= {p.main with body:=[1,2,3,4,5,6,7,8,10,11,12,13,15,16,17,18,19,20,21,23,24,25,26,28,29,30,31,32,34,35,36,37,38,39,40,41,42,43,44,45,46,47,48,49,50,51,52,53,54,55,56,57,58,59,60,61,62].filterMap λi=>p.main.body[i]?}}
noncomputable def loose:VT:=[Str.ofString "GREAT"]
noncomputable def lv:List (Str × WData):=[(Str.ofString "GREAT",WData.int 1000000000000000000)]
noncomputable abbrev ks(x:String)(n:Nat):Value:=.str (Str.ofString x) n
noncomputable abbrev kd(P:Params)(l:List (String × Nat × Value))(n:Nat) :Obj:= {cls:=.type "dict",data:=.dict (l.map fun x=> {hash:=PyData.keyHash P (Str.ofString x.1),key:=ks x.1 x.2.1,val:=x.2.2}).toArray n}
noncomputable abbrev kc(nm:String)(bs m:VU)(i:Nat)(j t:Nat)(sb:VU) :Obj:= {cls:=.type "type",data:=.cls {name:=Str.ofString nm,bases:=bs,mro:=.ref i :: (m ++ [.type "ValueError",.type "Exception",.type "BaseException",.type "object"]),ns:=i-1,qualname:=Str.ofString nm,subclasses:=sb},slots:=#[some (.ref j),none,some (ks nm t),some (ks nm (t+8)),some (.builtin "ValueError.__new__"),some (.bool true)]}
noncomputable abbrev kx(P:Params)(nm:String)(j t:Nat)(n:Int) :Frag:=[(j+8,kd P [("__module__",t+7,ks "halfrun.errors" 187),("__firstlineno__",t+11,.int n (t+10)),("__static_attributes__",t+12,.ref (j+7)),("__doc__",t+13,.none)] 2),(j+9,kc nm [.ref 24] [.ref 24] (j+9) j t [])]
noncomputable abbrev kt(l:List (String × Nat)) :Obj:= {cls:=.type "tuple",data:=.seq (l.map fun x=>ks x.1 x.2).toArray}
noncomputable def K:Params→Frag:=fun P=>[(3,kd P [("__name__",165,ks "law_uf010005_13" 566),("__doc__",166,.none),("__package__",167,.none),("__loader__",168,.builtin "__main__.__loader__#opaque"),("__spec__",169,.none),("__annotations__",170,.ref 6),("__builtins__",171,.ref 4),("__file__",173,ks "/claim/cut.py" 172),("__cached__",174,.none),("HalfError",206,.ref 24),("NoNumber",222,.ref 37),("NoList",238,.ref 49),("NoFirst",254,.ref 61),("NoDown",270,.ref 73),("ByNought",286,.ref 85),("TooGreat",302,.ref 97),("NotKept",318,.ref 109),("GREAT",324,.int 1000000000000000000 323),("HEAVIEST",326,.int 50 325),("room_left",337,.ref 118),("is_value",344,.ref 125),("SINGLES",351,.ref 126),("fitting",358,.ref 133),("number_done",367,.ref 140),("down",374,.ref 147),("list_done",382,.ref 154),("joined",390,.ref 161),("done",398,.ref 168),("TAME",404,.ref 169),("calls_in",414,.ref 176),("is_tame",422,.ref 183),("keeps",428,.ref 188),("worked_out",439,.ref 195),("Making",533,.ref 250),("worked",547,.ref 261),("left_over",556,.ref 268),("cases",565,.ref 275),("_law_cell_at",575,.ref 282),("_law_next",583,.ref 289),("_law_value",589,.ref 294),("_law_same",598,.ref 301),("_law_names",604,.ref 306),("_law_few",613,.ref 313),("_law_tame",626,.ref 320),("_law_parts",640,.ref 327),("_law_call",655,.ref 334),("_law_do",668,.ref 341),("_law_form",681,.ref 348),("_law_heads",687,.ref 353),("_law_program",693,.ref 358),("_law_inputs",704,.ref 365),("_law_sorting",710,.ref 370),("_law_special",728,.ref 377),("_law_drawn",736,.ref 384),("_law_topped",742,.ref 389),("_law_weight",748,.ref 394),("_law_fit",755,.ref 401),("_law_counted",764,.ref 408),("_law_taken",772,.ref 415),("_law_done",780,.ref 422),("_law_other",786,.ref 427),("_law_left_call",801,.ref 434),("_law_left",807,.ref 439),("_law_as_told",813,.ref 444),("_law_in_turn",819,.ref 449),("law",825,.ref 454)] 66),(23,kd P [("__module__",196,ks "halfrun.errors" 187),("__firstlineno__",200,.int 2 199),("__static_attributes__",201,.ref 22),("__weakref__",203,.ref 25),("__doc__",204,.none)] 3),(24,kc "HalfError" [.type "ValueError"] [] 24 15 189 [.ref 37,.ref 49,.ref 61,.ref 73,.ref 85,.ref 97,.ref 109])] ++ kx P "NoNumber" 28 207 4 ++ kx P "NoList" 40 223 6 ++ kx P "NoFirst" 52 239 8 ++ kx P "NoDown" 64 255 10 ++ kx P "ByNought" 76 271 12 ++ kx P "TooGreat" 88 287 14 ++ kx P "NotKept" 100 303 16 ++ [(126,kt [("down",347),("first",348),("rest",349),("empty",350)]),(169,kt [("first",401),("rest",402),("down",403)])]
noncomputable def Ps:List Addr:=[3,23,24,36,37,48,49,60,61,72,73,84,85,96,97,108,109,126,169]
theorem K_eq:∀P,Ps=(K P).map (·.1):=λaa=>by kernel_rfl
noncomputable abbrev H:Hook:=kHook K Ps K_eq
theorem left:LeftO p view loose (λs=>xlAt view lv s&&recOk (RowW.records<|OpenRow.toRowW row) s) (Hook.obs H) (Hook.val H) 20000:=Ht.leftT λw=>by kernel_rfl
theorem Qj:PySem.Challenge.rw_uf010005_13.wellSaid=true:=by kernel_rfl
theorem Td:(defOf view (OpenRow.toRowW row).name).isSome=true:=by kernel_rfl
noncomputable abbrev dk:DefRec×List (Str×Expr):=(defOf view (OpenRow.toRowW row).name).get Td
theorem Rf:defOf view row.name=some (dk.1,dk.2):=(Option.some_get Td).symm
theorem hp:row.prog.theDef row.name=some (dk.1.params,dk.1.body,dk.1.scope):=by kernel_rfl
theorem hk:kwWritten? dk.1.params.kwonlyargs dk.1.params.kw_defaults=some dk.2:=by kernel_rfl
theorem hok:(chainsOk view&&opensWell row.prog&&(frees row.toRowW&&row.within.isEmpty))=true:=by kernel_rfl
theorem N2:row.prog.bare:=⟨rfl,rfl,rfl,rfl,rfl,by decide +kernel⟩
theorem hw:row.toRowW.promised:=by w_witness2
theorem UG:(!row.writes||row.records.isEmpty)=true:=by kernel_rfl
theorem hd(call:WalkO view loose (XL view lv) (Hook.says H) row.toRowW dk.1 dk.2 λf vs=>PySem.call f vs):PySem.Challenge.rw_uf010005_13.Holds:=
 holds_law Qj λk1=>holds_open (q:=view) (loose:=loose) (Xt:=λs=>xlAt view lv s&&recOk (RowW.records<|OpenRow.toRowW row) s) (XP:=XL view lv) (Yf:=Hook.obs H) (Ya:=Hook.val H) (YP:=Hook.says H) (N:=20000)
  left (Hook.of H) (Hook.keeps H) (λs e=>xl_of s (and_eq_true_iff.mp e).1) XL.keeps Rf hp hk (λs e=>recFacts_of (and_eq_true_iff.mp e).2) UG k1 hok N2 hw call
end Hq
end
section
set_option backward.match.sparseCases false
namespace Mv
universe u v x y z
theorem Z9{α:Type u}{β:Type v}{f:α->β}{x:Option α}{b:β}(h:x.map f=some b):∃a,x=some a/\f a=b:=map_eq_some_iff.mp h
theorem Z8:type_of% @Bool.and_eq_true:=@Bool.and_eq_true
theorem Z7:type_of% @Bool.false_ne_true:=@Bool.false_ne_true
theorem Z6:type_of% @Bool.not_eq_true':=@Bool.not_eq_true'
theorem Z5:type_of% @PySem.Calls.evalArgs_plain:=@PySem.Calls.evalArgs_plain
theorem Z4:type_of% @PySem.Calls.spliced_cons:=@PySem.Calls.spliced_cons
theorem Z2:type_of% @PySem.Heap.get?_push_of_some:=@PySem.Heap.get?_push_of_some
theorem Z1:type_of% @PySem.Heap.get?_push_size:=@PySem.Heap.get?_push_size
theorem Z0:type_of% @PySem.Heap.get?_update_other:=@PySem.Heap.get?_update_other
theorem ZZ:type_of% @PySem.Heap.lt_size:=@PySem.Heap.lt_size
theorem ZY:type_of% @Int.add_zero:=@Int.add_zero
theorem ZX:type_of% @Int.le_antisymm:=@Int.le_antisymm
theorem ZW:type_of% @Int.natAbs_of_nonneg:=@Int.natAbs_of_nonneg
theorem ZV:type_of% @Int.natCast_nonneg:=@Int.natCast_nonneg
theorem ZU:type_of% @Int.toNat_natCast:=@Int.toNat_natCast
theorem ZT:type_of% @Int.toNat_of_nonneg:=@Int.toNat_of_nonneg
theorem ZR:type_of% @Int.zero_add:=@Int.zero_add
theorem ZQ:type_of% @all_eq_true.{u}:=@all_eq_true
theorem ZP:type_of% @append_assoc.{u}:=@append_assoc
theorem ZO:type_of% @append_nil.{u}:=@append_nil
theorem ZN:type_of% @List.getD_eq_getElem?_getD.{u}:=@List.getD_eq_getElem?_getD
theorem ZM:type_of% @List.getElem?_append_left.{u}:=@List.getElem?_append_left
theorem ZL:type_of% @List.getElem?_append_right.{u}:=@List.getElem?_append_right
theorem ZK:type_of% @List.getElem?_eq_getElem.{u}:=@List.getElem?_eq_getElem
theorem ZJ:type_of% @List.getElem?_map.{u,v}:=@List.getElem?_map
theorem ZI:type_of% @List.length_append.{u}:=@List.length_append
theorem ZH:type_of% @List.length_cons.{u}:=@List.length_cons
theorem ZG:type_of% @List.length_map.{u,v}:=@List.length_map
theorem ZE:type_of% @List.length_range:=@List.length_range
theorem ZD:type_of% @List.length_singleton.{u}:=@List.length_singleton
theorem ZC:type_of% @List.lookup_cons.{u,v}:=@List.lookup_cons
theorem ZB:type_of% @List.map_append.{u,v}:=@List.map_append
theorem Zz:type_of% @map_cons.{u,v}:=@map_cons
theorem Zy:type_of% @map_nil.{u,v}:=@map_nil
theorem Zx:type_of% @List.mem_append_left.{u}:=@List.mem_append_left
theorem Zw:type_of% @List.mem_append_right.{u}:=@List.mem_append_right
theorem Zv:type_of% @mem_cons.{u}:=@mem_cons
theorem Zu:type_of% @List.mem_cons_of_mem.{u}:=@List.mem_cons_of_mem
theorem Zt:type_of% @List.mem_cons_self.{u}:=@List.mem_cons_self
theorem Zs:type_of% @List.mem_of_getElem?.{u}:=@List.mem_of_getElem?
theorem Zr:type_of% @mem_singleton.{u}:=@mem_singleton
theorem Zq:type_of% @List.nil_append.{u}:=@List.nil_append
theorem Zp:type_of% @List.not_mem_nil.{u}:=@List.not_mem_nil
theorem Zo:type_of% @List.size_toArray.{u}:=@List.size_toArray
theorem Zn:type_of% @Nat.add_sub_cancel':=@Nat.add_sub_cancel'
theorem Zm:type_of% @Nat.add_sub_cancel_left:=@Nat.add_sub_cancel_left
theorem Zl:type_of% @Nat.le_add_right:=@Nat.le_add_right
theorem Zk:type_of% @Nat.le_antisymm:=@Nat.le_antisymm
theorem Zj:type_of% @Nat.le_of_eq:=@Nat.le_of_eq
theorem Zi:type_of% @Nat.le_of_succ_le_succ:=@Nat.le_of_succ_le_succ
theorem Zh:type_of% @Nat.le_refl:=@Nat.le_refl
theorem Zg:type_of% @Nat.le_trans:=@Nat.le_trans
theorem Zf:type_of% @Nat.lt_irrefl:=@Nat.lt_irrefl
theorem Ze:type_of% @Nat.lt_of_le_of_lt:=@Nat.lt_of_le_of_lt
theorem Zd:type_of% @Nat.lt_of_lt_of_le:=@Nat.lt_of_lt_of_le
theorem Zc:type_of% @Nat.ne_of_lt:=@Nat.ne_of_lt
theorem Zb:type_of% @Nat.not_succ_le_zero:=@Nat.not_succ_le_zero
theorem Za:type_of% @Nat.sub_add_cancel:=@Nat.sub_add_cancel
theorem Y9:type_of% @Nat.succ.inj:=@Nat.succ.inj
theorem Y8:type_of% @Nat.zero_add:=@Nat.zero_add
theorem Y7:type_of% @Nat.zero_le:=@Nat.zero_le
theorem Y6:type_of% @PySem.Obj.data_mapFields:=@PySem.Obj.data_mapFields
theorem Y5:type_of% @Option.some.inj.{u}:=@Option.some.inj
theorem Y4:type_of% @Prod.mk.inj.{u,v}:=@Prod.mk.inj
theorem Y3:type_of% @PyProof.Rows.callWith_type:=@PyProof.Rows.callWith_type
theorem Y2:type_of% @congrArg.{u,v}:=@congrArg
theorem Y1:type_of% @decide_eq_false:=@decide_eq_false
theorem Y0:type_of% @decide_eq_true:=@decide_eq_true
theorem YZ:type_of% @decide_eq_true_eq:=@decide_eq_true_eq
theorem YY:type_of% @if_neg.{u}:=@if_neg
theorem YX:type_of% @if_pos.{u}:=@if_pos
theorem YW:type_of% @of_decide_eq_true:=@of_decide_eq_true
theorem YV:type_of% @PySem.wpAny_bind:=@PySem.wpAny_bind
theorem YU:type_of% @PySem.wpAny_field:=@PySem.wpAny_field
theorem YT:type_of% @PySem.wpAny_ite_false:=@PySem.wpAny_ite_false
theorem YS:type_of% @PySem.wpAny_mono:=@PySem.wpAny_mono
theorem YR:type_of% @PySem.wpAny_pure:=@PySem.wpAny_pure
theorem Uc{r:Nat}(h:1<=r):∃k,r=k+1:=⟨r-1,(Za h).symm⟩
theorem eA{α:Type u}{a:α}{l:List α}{P:α->Prop}(h:∀x∈a::l,P x):∀x∈l,P x:=λx m=>h x<|Zu _ m
open PySem
noncomputable abbrev D:=PyData
noncomputable abbrev Sz:Nat:=16777216
noncomputable abbrev Wz:Nat:=1208925819614629174706176
theorem JX{α:Sort u}{β:Sort v}(P:α->β->Prop){c:Prop}(k:∀J:α->β->Prop,(∀a b,J a b->P a b)->(∀a b,P a b->J a b)->c):c:=k P (λaa ai h=>h) λaa ai h=>h
theorem ak{p:Prop}(h:∀G:Prop,(p->G)->G):p:=h p id
theorem aB{α:Sort u}{p:α->Prop}{c:Prop}(h:∃a,p a)(k:∀a,p a->c):c:=h.elim k
theorem er{α:Sort u}{β:Sort v}{p:α->β->Prop}{c:Prop}(h:∃a b,p a b)(k:∀a b,p a b->c):c:=h.elim λa h=>h.elim<|k a
theorem kF{α:Sort u}{β:Sort v}{γ:Sort w}{p:α->β->γ->Prop}{c:Prop}(h:∃a b d,p a b d)(k:∀a b d,p a b d->c):c:=h.elim λa h=>er h<|k a
theorem pc{α:Sort u}{β:Sort v}{γ:Sort w}{δ:Sort x}{p:α->β->γ->δ->Prop}{c:Prop}(h:∃a b d e,p a b d e)(k:∀a b d e,p a b d e->c):c:=h.elim λa h=>kF h<|k a
@[elab_as_elim] theorem O{α:Sort u}{a b:α}{IO:α->Prop}(h:a=b)(m:IO b):IO a:=h▸m
set_option genCtorIdx true in
inductive Slot where|no|fz(d:D)|KK(d:D)|tab(X:VY)
inductive Pl where|var(i:Nat)
set_option genCtorIdx true in
inductive Rv where|fz(d:D)|KK(d:D)|pl(p:Pl)
noncomputable abbrev Fm:=List Slot
noncomputable abbrev bF(α:Type):=Option<|VW α×Fm
class Kt(α β:Type) where
 run:α->Fm->bF β
noncomputable def mF{α β:Type}(m:bF α)[k:Kt α β]:bF β:=
 match m with
 |none=>none
 |some (.error e,Y)=>some (.error e,Y)
 |some (.ok a,Y)=>k.run a Y
noncomputable abbrev aT{α β:Type}(m:bF α)(k:α->Fm->bF β):bF β:=@mF α β m ⟨k⟩
theorem jh(a:α)(Y:Fm)(k:α->Fm->bF β): @mF α β (some (.ok a,Y)) ⟨k⟩=k a Y:=by rfl
set_option genCtorIdx true in
inductive Cr where|add|sub|mul|fdiv|mod|pow
set_option genCtorIdx true in
inductive Cm where|eq|ne|lt|le|gt|ge|isin|notin
set_option genCtorIdx true in
inductive Ty where|tup|int|bool|str
inductive Bi where
 |len|isi (t:Ty)|sum|abs|int|tuple|list|str
 |count|index|dzip|dict0|dict|disp (ks:VT)
set_option genCtorIdx true in
inductive gM where|seq|range|zip|enum
inductive Tgt where|one(i:Nat)|tup(is:VS)
inductive Ex where
 |lit (d:D)
 |gl (k:Nat)
 |var (i:Nat)
 |pl (p:Pl)
 |tup (es:List Ex)
 |list (es:List Ex)
 |op2 (o:Cr) (a b:Ex)
 |neg (a:Ex)
 |not (a:Ex)
 |cmp (o:Cm) (a b:Ex)
 |cmp2 (o p:Cm) (a b c:Ex)
 |bo (j:Bool) (es:List Ex)
 |idx (a i:Ex)
 |slc (a lo hi:Ex)
 |call (f:Nat) (args:List Ex)
 |bi (b:Bi) (args:List Ex)
 |comp (cX:Ex) (t:Tgt) (it:gM) (bG:List Ex) (aw:List Ex)
 |mcall (f:Nat) (as:VS) (args:List Ex)
 |callp (f i:Nat)
 |tin (i:Nat) (e:Ex)
 |tget (i:Nat) (e:Ex)
inductive St where
 |asg (t:Tgt) (e:Ex)
 |setI (p:Pl) (i e:Ex)
 |app (p:Pl) (e:Ex)
 |exp (e:Ex)
 |iff (c:Ex) (a b:List St)
 |ret (e:Ex)
 |for_ (t:Tgt) (it:gM) (bG:List Ex) (body:List St) (ct:VS)
 |whl (t:Ex) (body:List St) (ct:VS)
 |new (f:Nat) (as:VS) (args:List Ex) (body:List St)
 |raise (c:Str)
 |tryx (body:List St) (hs:List (Str×Ex))
 |tab0 (i:Nat)
 |tset (i:Nat) (k e:Ex)
 |no
set_option genCtorIdx true in
inductive bN where|next|ret(r:Rv)
noncomputable def qL(a b:Int):Bool:=decide (a.natAbs<2 ^ 64)||decide (b.natAbs<2 ^ 64)
noncomputable def wG(a b:Int):Option Rv:=if qL a b=true then some (.fz<|.int<|a*b) else none
noncomputable def rep(n:Int)(M:List α):List α:=(replicate n.toNat M).flatten
noncomputable def op2:Cr->D->D->Option Rv
 |.add,.int a,.int b=>some<|.fz<|.int<|a+b
 |.add,.str a,.str b=>if a.cps.size+b.cps.size<=Sz then some (.fz<|.str ⟨a.cps++b.cps⟩) else none
 |.add,.tuple a,.tuple b=>if a.length+b.length<=Sz then some (.fz<|.tuple<|a++b) else none
 |.add,.list a,.list b=>if a.length+b.length<=Sz then some (.KK<|.list<|a++b) else none
 |.sub,.int a,.int b=>some<|.fz<|.int<|a-b
 |.mul,.int a,.int b=>wG a b
 |.mul,.str a,.int n=>if -1000000000<=n/\n<=1000000000/\a.cps.size*n.toNat<=Sz then some (.fz<|.str ⟨(rep n a.cps.toList).toArray⟩) else none
 |.mul,.tuple a,.int n=>if a.length=1/\2<=n/\n<=1000 then some (.fz<|.tuple<|rep n a) else none
 |.fdiv,.int a,.int b=>if b≠0/\b.natAbs<2 ^ 64 then some (.fz<|.int<|a.fdiv b) else none
 |.mod,.int a,.int b=>if b=0 then none else some (.fz<|.int<|a.fmod b)
 |.pow,.int a,.int n=>if 0<=n/\n<=1000/\a.natAbs<2 ^ 64 then some (.fz<|.int<|a ^ n.toNat) else none
 |_,_,_=>none
mutual
noncomputable def noDict:D->Bool
 |.none|.bool _|.int _|.str _=>true
 |.list M|.tuple M=>noDicts M
 |.dict _=>false
noncomputable def noDicts:VX->Bool
 |[]=>true
 |x::M=>noDict x&&noDicts M
end
noncomputable def fh(a b:D):Bool:=noDict a&&noDict b&&decide (min a.depth b.depth<=64)
noncomputable def eqD:D->D->Option Bool
 |.int a,.int b=>some<|a==b
 |.str a,.str b=>some<|a.cps.toList==b.cps.toList
 |.bool a,.bool b=>some<|a==b
 |a,b=>if fh a b then some (eqv a b) else none
noncomputable def ew(x:D):VX->Option Bool
 |[]=>some false
 |y::ys=>match eqD y x with
  |none=>none
  |some b=>match ew x ys with
   |none=>none
   |some c=>some<|b||c
noncomputable def aR:VY->Str->Option D
 |(.str k,d)::r,x=>if k=x then some d else aR r x
 |_::r,x=>aR r x
 |[],_=>none
noncomputable def mf:VY->Str->D->VY
 |(.str k,d)::r,x,e=>(.str k,if k=x then e else d)::mf r x e
 |p::r,x,e=>p::mf r x e
 |[],_,_=>[]
noncomputable def dO(l:VY)(x:Str)(e:D):VY:=if (aR l x).isSome then mf l x e else l++[(.str x,e)]
noncomputable def gG:VX->Option (List Bool)
 |[]=>some []
 |.bool x::r=>(gG r).map (x :: ·)
 |_::_=>none
noncomputable def bQ:VT->Nat
 |[]=>0
 |x::r=>if r.contains x then bQ r else bQ r+1
noncomputable def iQ:VY->VX->Option (List<|D×D)
 |VM,[]=>some VM
 |VM,.tuple [.str k,v]::r=>iQ (dO VM k v) r
 |_,_::_=>none
noncomputable def EG(x:D):D->Option Bool
 |.tuple M=>if noDict x then ew x M else none
 |.list M=>if noDict x then ew x M else none
 |.dict kvs=>match x with
  |.str k=>some (aR kvs k).isSome
  |_=>none
 |_=>none
noncomputable def S6:D->D->Option Bool
 |.int a,.int b=>some<|decide<|a<b
 |_,_=>none
noncomputable def S7:D->D->Option Bool
 |.int a,.int b=>some<|decide<|a<=b
 |_,_=>none
noncomputable def MJ(x:D):D->Option Bool
 |.list M=>(EG x<|.list M).map (!·)
 |_=>none
noncomputable def aI(o:Cm)(a b:D):Option Bool:=match o with
 |.eq=>eqD a b
 |.ne=>(eqD a b).map (!·)
 |.lt=>S6 a b
 |.le=>S7 a b
 |.gt=>S6 b a
 |.ge=>S7 b a
 |.isin=>EG a b
 |.notin=>MJ a b
noncomputable def tD:D->Bool
 |.none=>false
 |.bool b=>b
 |.int i=>i != 0
 |.str s=>s.cps.size != 0
 |.list M=>!M.isEmpty
 |.tuple M=>!M.isEmpty
 |.dict kvs=>!kvs.isEmpty
noncomputable def DZ:D->Option D
 |.int a=>some<|.int<|-a
 |_=>none
noncomputable def bf(M:List α)(i:Int):Option α:=if 0<=i then M[i.toNat]? else none
noncomputable def cW:D->D->Option D
 |.list M,.int i=>bf M i
 |.tuple M,.int i=>bf M i
 |.str s,.int i=>(bf s.cps.toList i).map λc=>.str ⟨#[c]⟩
 |.dict kvs,.str k=>aR kvs k
 |_,_=>none
noncomputable def yD:D->D->D->Option Rv
 |.tuple X,.int i,.none=>if 1<=i/\i<=X.length then some (.fz<|.tuple<|X.drop i.toNat) else none
 |_,_,_=>none
noncomputable def lX:Ty->D->Bool
 |.tup,.tuple _=>true
 |.int,.int _=>true
 |.int,.bool _=>true
 |.bool,.bool _=>true
 |.str,.str _=>true
 |_,_=>false
noncomputable def sR:Int->VX->Option D
 |a,[]=>some<|.int a
 |a,.int b::r=>sR (a+b) r
 |_,_::_=>none
noncomputable def Bi.loops:Bi->Bool
 |.sum=>true
 |.dzip=>true
 |.dict=>true
 |_=>false
noncomputable def D9:D->Option Nat
 |.list M=>some M.length
 |.tuple M=>some M.length
 |_=>none
noncomputable def fq:VX->VX->VX
 |x::M,z::zs=>.tuple [x,z]::fq M zs
 |_,_=>[]
noncomputable def jH:Nat->VX->VX
 |_,[]=>[]
 |k,x::M=>.tuple [.int k,x]::jH (k+1) M
noncomputable def gO(n:Nat):VS:=(Nat.toDigits 10 n).map Char.toNat
noncomputable def fS(x:D):VX->Option Nat
 |[]=>none
 |y::ys=>if eqv y x=true then some 0 else(fS x ys).map (· + 1)
noncomputable def vF:VT->VX->VY
 |k::ks,d::X=>(.str k,d)::vF ks X
 |_,_=>[]
mutual
noncomputable def b9:D->Bool
 |.int _|.str _=>true
 |.tuple M=>eX M
 |_=>false
noncomputable def eX:VX->Bool
 |[]=>true
 |x::M=>b9 x&&eX M
end
noncomputable def fH:D->Bool
 |.tuple M=>eX M&&decide (depthAll M<8)
 |_=>false
noncomputable def bK(k:D):VY->Option D
 |[]=>none
 |p::r=>if eqv p.1 k=true then some p.2 else bK k r
noncomputable def jm:Bi->VX->Option Rv
 |.len,[a]=>(D9 a).map λ(n:Nat)=>.fz<|.int n
 |.isi t,[a]=>some<|.fz<|.bool<|lX t a
 |.sum,[.list M]=>(sR 0 M).map .fz
 |.abs,[.int a]=>some<|.fz<|.int a.natAbs
 |.int,[.bool b]=>some<|.fz<|.int (if b then 1 else 0)
 |.tuple,[.list M]=>some<|.fz<|.tuple M
 |.tuple,[.tuple M]=>some<|.fz<|.tuple M
 |.list,[.tuple M]=>some<|.KK<|.list M
 |.count,[.list M,.bool b]=>(gG M).map λbs=>.fz<|.int (bs.count b:Nat)
 |.str,[.int<|.ofNat n]=>if n<10 ^ 18/\(gO n).length<=20 then some (.fz<|.str ⟨(gO n).toArray⟩) else none
 |.index,[.list M,d]=>if fh (.list M) d then(fS d M).map λ(n:Nat)=>.fz (.int n) else none
 |.dict0,[]=>some<|.KK<|.dict []
 |.dict,[.list ps]=>if ps.length<=1000 then(iQ [] ps).map λkvs=>.KK (.dict kvs) else none
 |.disp ks,X=>if ks.length=X.length then some (.KK<|.dict<|vF ks X) else none
 |.dzip,[.list ks,.tuple vs]=>if ks.length<=1000 then(iQ []<|fq ks vs).map λkvs=>.KK (.dict kvs) else none
 |_,_=>none
noncomputable def gm(a:Int)(n:Nat):VX:=(List.range n).map λ(k:Nat)=>.int<|a+k
noncomputable def b4:gM->VX->Option VX
 |.seq,[.list M]=>some M
 |.seq,[.tuple M]=>some M
 |.range,[.int n]=>if -1000000000<=n/\n<=Sz then some (gm 0 n.toNat) else none
 |.zip,[.tuple M,.tuple zs]=>some<|fq M zs
 |.enum,[.list M]=>some<|jH 0 M
 |_,_=>none
noncomputable def yX(Y:Fm):Pl->Option D
 |.var i=>match Y[i]? with
  |some (.fz d)=>some d
  |some (.KK d)=>some d
  |_=>none
noncomputable def Slot.live:Slot->Bool
 |.no=>false
 |_=>true
noncomputable def ta(Y:Fm):Pl->Bool
 |.var i=>match Y[i]? with
  |some sl=>sl.live
  |none=>false
noncomputable def iU(Y:Fm):Pl->Option D
 |.var i=>match Y[i]? with
  |some (.KK d)=>some d
  |_=>none
noncomputable def qy(Y:Fm)(p:Pl)(d:D):Fm:=match p with
 |.var i=>Y.set i<|.KK d
noncomputable def d6(Y:Fm):Rv->Option D
 |.fz d=>some d
 |.KK d=>some d
 |.pl p=>yX Y p
noncomputable def c5:Rv->Option D
 |.fz d=>some d
 |.KK d=>some d
 |.pl _=>none
noncomputable def ju(Y:Fm):List Rv->Option VX
 |[]=>some []
 |r::rs=>match d6 Y r,ju Y rs with
  |some d,some X=>some (d::X)
  |_,_=>none
noncomputable def eC:List Rv->Option VX
 |[]=>some []
 |r::rs=>match c5 r,eC rs with
  |some d,some X=>some (d::X)
  |_,_=>none
noncomputable def clr(Y:Fm):VS->Fm
 |[]=>Y
 |i::is=>clr (Y.set i .no) is
noncomputable def mT(pin:VS)(Y:Fm):VS->VX->Option Fm
 |[],[]=>some Y
 |i::is,d::X=>if pin.contains i then none else mT pin (Y.set i<|.fz d) is X
 |_,_=>none
noncomputable def asgT(pin:VS)(Y:Fm)(t:Tgt)(r:Rv):Option Fm:=match t with
 |.one i=>if pin.contains i then none else match r with
  |.fz d=>some<|Y.set i<|.fz d
  |.KK d=>some<|Y.set i<|.KK d
  |.pl _=>none
 |.tup is=>match c5 r with
  |some (.tuple X)=>mT pin Y is X
  |_=>none
noncomputable def aQ:Tgt->VS
 |.one i=>[i]
 |.tup is=>is
noncomputable def O0{α β:Type}(cl:VS)(m:bF α)[k:Kt α β]:bF β:=
 match m with
 |none=>none
 |some (.error e,Y)=>some (.error e,clr Y cl)
 |some (.ok a,Y)=>k.run a Y
noncomputable abbrev rY{α β:Type}(cl:VS)(m:bF α)(k:α->Fm->bF β):bF β:=@O0 α β cl m ⟨k⟩
noncomputable def da(Y:Fm):List Rv->Option (List Slot)
 |[]=>some []
 |r::rs=>match (match r with
   |.fz d=>some<|Slot.fz d
   |.KK d=>some<|.fz d
   |.pl (.var i)=>(match Y[i]? with
    |some (.fz d)=>some<|.fz d
    |some (.KK d)=>some<|.KK d
    |_=>none)),da Y rs with
  |some s,some ss=>some (s::ss)
  |_,_=>none
noncomputable def Slot.lent:Slot->Bool
 |.fz _=>false
 |.no=>false
 |_=>true
noncomputable def d7:List Rv->VS
 |[]=>[]
 |.pl (.var i)::rs=>i::d7 rs
 |_::rs=>d7 rs
noncomputable def dg(Y:Fm):List Rv->List Slot->List Slot->Fm
 |r::rs,s::ss,aM=>if s.lent then(match aM with
   |o::os=>(match r with
    |.pl (.var i)=>dg (Y.set i o) rs ss os
    |_=>dg Y rs ss os)
   |[]=>Y) else dg Y rs ss aM
 |_,_,_=>Y
noncomputable def g9:List Slot->Fm->List Slot
 |[],_=>[]
 |s::ss,Y=>if s.lent then Y.headD .no::g9 ss Y.tail else g9 ss Y.tail
noncomputable def i9:Nat->List Slot->VS
 |_,[]=>[]
 |k,s::ss=>if s.lent then k::i9 (k+1) ss else i9 (k+1) ss
noncomputable def gg(Y:Fm)(as:VS):List Slot:=as.map λi=>(Y[i]?).getD .no
noncomputable def eB(Y:Fm):VS->List Slot->Fm
 |[],_=>Y
 |_::_,[]=>Y
 |i::is,s::ss=>eB (Y.set i s) is ss
noncomputable def hG(na:Nat)(args:List Slot)(Y:Fm):List Slot:=gg Y (List.range na)++g9 (args.drop na) (Y.drop na)
noncomputable def fF(na:Nat)(rb:VS)(args:List Slot):VS:=((List.range na).filter λk=>!rb.contains k)++i9 na (args.drop na)
noncomputable def Ny:VW Rv->Bool
 |.ok (.fz .none)=>true
 |_=>false
noncomputable def nx(as:VS):VS:=(as.getLast?.getD 0+1)::as
noncomputable def fP(as:VS):List Slot:=as.map λaa=>.no
structure Cfg where
 glob:VX
 call:Bool->Nat->List Slot->Option (VW Rv×List Slot)
 pin:VS
 hd:Bool
noncomputable def PB(m:Fm->bF bN)(k:bN)(Y:Fm):bF bN:=match k with
 |.next=>m Y
 |.ret r=>some (.ok<|.ret r,Y)
noncomputable def RF(r:Option D)(rs:VX)(Y:Fm):bF VX:=match r with
 |none=>some (.ok rs,Y)
 |some x=>some (.ok (x::rs),Y)
noncomputable def rQ[f:Kt D (Option D)](cl:VS):VX->Fm->bF VX
 |[],Y=>some (.ok [],clr Y cl)
 |d::X,Y=>aT (f.run d<|clr Y cl) λr Y=>aT (rQ (f:=f) cl X Y)<|RF r
noncomputable def AY[f:Kt D bN](cl:VS):VX->Fm->bF bN
 |[],Y=>some (.ok .next,clr Y cl)
 |d::X,Y=>aT (f.run d<|clr Y cl)<|PB<|AY (f:=f) cl X
noncomputable def Qc[t:Kt Unit Bool][f:Kt Unit bN](cl:VS):Nat->Fm->bF bN
 |0,_=>none
 |n+1,Y=>aT (t.run ()<|clr Y cl) λb Y=>match b with
  |true=>aT (f.run () Y)<|PB<|Qc (t:=t) (f:=f) cl n
  |false=>some (.ok .next,Y)
noncomputable def mo{α β:Type}(x:Option α)(g:α->bF β):bF β:=match x with
 |none=>none
 |some a=>g a
noncomputable def th{α:Type}(Y:Fm):Option α->bF α
 |none=>none
 |some a=>some (.ok a,Y)
noncomputable def nU(c:Cfg)(f:Nat)(as:VS)(rs:List Rv)(Y:Fm):bF Rv:=
 mo (da Y rs) λss=>if (as++d7 rs).Nodup then mo (c.call c.hd f<|gg Y as++ss) λo=>
  aT (some (o.1,dg (eB Y as o.2) rs ss<|o.2.drop as.length)) λr Y=>mo (c5 r) λaa=>some (.ok r,Y) else none
noncomputable def pL(c:Cfg)(f:Nat)(o:Option Slot)(Y:Fm):bF Rv:=match o with
 |some (.KK<|.list M)=>(match c.call c.hd f [.fz<|.list M]with
  |some (.ok<|.fz d,_)=>if b9 d then some (.ok<|.fz d,Y) else none
  |_=>none)
 |_=>none
noncomputable def lA(o:Option Slot):Option (List<|D×D):=match o with
 |some (.tab X)=>some X
 |_=>none
noncomputable def DV(Y:Fm):Option Rv->bF Rv
 |none=>none
 |some (.fz d)=>some (.ok<|.fz d,Y)
 |some (.KK d)=>some (.ok<|.KK d,Y)
 |some (.pl _)=>none
theorem Nb{l:List α}(h:l.length=1):∃a,l=[a]:=by cases l with
 |nil=>exact nomatch h
 |cons a l=>cases l with
  |nil=>exact⟨a,rfl⟩
  |cons b l=>exact nomatch Y9 h
theorem Ea{l:List α}(h:l.length=2):∃a b,l=[a,b]:=by cases l with
 |nil=>exact nomatch h
 |cons a l=>exact aB (Nb<|Y9 h) λb e=>⟨a,b,Y2 _ e⟩
theorem Jw{l:List α}(h:l.length=3):∃a b c,l=[a,b,c]:=by cases l with
 |nil=>exact nomatch h
 |cons a l=>exact er (Ea<|Y9 h) λb c e=>⟨a,b,c,Y2 _ e⟩
theorem am{r:α}{p:Prop}(h:none=some r):p:=nomatch h
theorem aE{a r:α}(h:some a=some r):a=r:=Y5 h
theorem jk{a b:α}(h:(Except.ok a:Except ε α) = .ok b):a=b:=Except.ok.inj h
theorem Kr{a:α}{e:ε}{p:Prop}(h:(Except.ok a:Except ε α) = .error e):p:=nomatch h
theorem mI{a:α}{e:ε}{p:Prop}(h:(Except.error e:Except ε α) = .ok a):p:=nomatch h
theorem wB{a b:α}{f g:Fm}(h:some ((Except.ok a:VW α),f)=some (.ok b,g)):a=b/\f=g:=⟨jk (Y4<|aE h).1,(Y4<|aE h).2⟩
theorem ed{c:Prop}[Decidable c]{a r:α}(h:(if c then some a else none)=some r):c/\a=r:=by
 by_cases q:c
 .rw[YX q]at h;exact⟨q,aE h⟩
 .rw[YY q]at h;exact am h
theorem AE{c:Prop}[Decidable c]{a:Option α}{r:α}(h:(if c then a else none)=some r):c/\a=some r:=by
 by_cases q:c
 .rw[YX q]at h;exact⟨q,h⟩
 .rw[YY q]at h;exact am h
theorem EJ{c:Prop}[Decidable c]{a:Option α}{r:α}(h:(if c then none else a)=some r):¬c/\a=some r:=by
 by_cases q:c
 .rw[YX q]at h;exact am h
 .rw[YY q]at h;exact⟨q,h⟩
theorem ba{x:Option α}{g:α->bF β}{o:VW β×Fm}(h:mo x g=some o):∃a,x=some a/\g a=some o:=by cases x with
 |none=>exact am h
 |some a=>exact⟨a,rfl,h⟩
theorem wJ(a:α)(g:α->bF β):mo (some a) g=g a:=rfl
theorem zk{x:Option α}{u:α->β}{Y:Fm}{o:VW β×Fm}(h:th Y (x.map u)=some o):∃a,x=some a/\o=(.ok<|u a,Y):=by cases x with
 |none=>exact am h
 |some a=>exact⟨a,rfl,(aE h).symm⟩
theorem ff{p:Prop}(h:true=false):p:=nomatch h
theorem tf{p:Prop}(h:false=true):p:=nomatch h
theorem PI{c:Prop}[Decidable c]{a r:α}(h:(if c then none else some a)=some r):¬c/\a=r:=by
 by_cases q:c
 .rw[YX q]at h;exact am h
 .rw[YY q]at h;exact⟨q,aE h⟩
noncomputable def CW(s:Option Slot)(Y:Fm)(i:Nat):bF Rv:=match s with
 |some (.fz d)=>some (.ok<|.fz d,Y)
 |some (.KK d)=>some (.ok<|.fz d,Y.set i<|.fz d)
 |_=>none
noncomputable def IW(r:Rv)(Y:Fm):bF bN:=match r with
 |.pl _=>none
 |r=>some (.ok<|.ret r,Y)
noncomputable def Lh(o:Option D)(Y:Fm)(p:Pl)(d:D):bF bN:=match o with
 |some (.list M)=>if M.length<Sz then some (.ok .next,qy Y p<|.list<|M++[d]) else none
 |_=>none
mutual
noncomputable def ev(c:Cfg):Ex->Fm->bF Rv
 |.lit d,Y=>some (.ok<|.fz d,Y)
 |.gl k,Y=>mo c.glob[k]? λd=>some (.ok<|.fz d,Y)
 |.var i,Y=>CW Y[i]? Y i
 |.pl p,Y=>if ta Y p then some (.ok<|.pl p,Y) else none
 |.tup es,Y=>aT (jF c es Y) λrs Y=>th Y<|(eC rs).map λX=>.fz<|.tuple X
 |.list es,Y=>aT (jF c es Y) λrs Y=>th Y<|(eC rs).map λX=>.KK<|.list X
 |.op2 o a b,Y=>aT (ev c a Y) λx Y=>aT (ev c b Y) λy Y=>mo (d6 Y x) λd=>mo (d6 Y y) λe=>DV Y<|op2 o d e
 |.neg a,Y=>aT (ev c a Y) λx Y=>mo (c5 x) λd=>th Y<|(DZ d).map .fz
 |.not a,Y=>aT (ev c a Y) λx Y=>mo (d6 Y x) λd=>some (.ok<|.fz<|.bool<|!tD d,Y)
 |.cmp o a b,Y=>aT (ev c a Y) λx Y=>aT (ev c b Y) λy Y=>mo (d6 Y x) λd=>mo (d6 Y y) λe=>th Y<|(aI o d e).map λb=>.fz<|.bool b
 |.cmp2 o p a b e,Y=>aT (ev c a Y) λx Y=>aT (ev c b Y) λy Y=>mo (c5 x) λd=>mo (c5 y) λd'=>mo (aI o d d') λt=>if t=true then aT (ev c e Y) λz Y=>mo (c5 z) λRD=>th Y ((aI p d' RD).map λb=>.fz<|.bool b)
    else some (.ok<|.fz<|.bool false,Y)
 |.bo j es,Y=>Hn c j es Y
 |.idx a i,Y=>aT (ev c a Y) λx Y=>aT (ev c i Y) λy Y=>mo (d6 Y x) λd=>mo (c5 y) λe=>th Y<|(cW d e).map .fz
 |.slc a lo hi,Y=>aT (ev c a Y) λx Y=>aT (ev c lo Y) λy Y=>aT (ev c hi Y) λz Y=>mo (d6 Y x) λd=>mo (c5 y) λl=>mo (c5 z) λh=>DV Y<|yD d l h
 |.call f args,Y=>aT (jF c args Y) λrs Y=>nU c f [] rs Y
 |.mcall f as args,Y=>aT (jF c args Y) λrs Y=>nU c f as rs Y
 |.callp f i,Y=>pL c f Y[i]? Y
 |.tin i e,Y=>aT (ev c e Y) λr Y=>mo (c5 r) λk=>mo (lA Y[i]?) λX=>if fH k then some (.ok<|.fz<|.bool (bK k X).isNone,Y) else none
 |.tget i e,Y=>aT (ev c e Y) λr Y=>mo (c5 r) λk=>mo (lA Y[i]?) λX=>if fH k then th Y ((bK k X).map .fz) else none
 |.bi b args,Y=>if c.hd&&b.loops then none else aT (jF c args Y) λrs Y=>mo (ju Y rs) λX=>DV Y<|jm b X
 |.comp cX t it bG aw,Y=>if c.hd then none else aT (jF c bG Y) λrs Y=>mo (eC rs) λX=>mo (b4 it X) λac=>
   rY (aQ t) (rQ (f:=⟨λd Y=>mo (asgT c.pin Y t<|.fz d) λY=>aT (df c aw Y) λb Y=>if b then aT (ev c cX Y) λr Y=>th Y ((c5 r).map some) else some (.ok none,Y)⟩) (aQ t) ac Y)
     λX Y=>some (.ok<|.KK<|.list X,Y)
noncomputable def jF(c:Cfg):List Ex->Fm->bF (List Rv)
 |[],Y=>some (.ok [],Y)
 |e::es,Y=>aT (ev c e Y) λr Y=>aT (jF c es Y) λrs Y=>some (.ok (r::rs),Y)
noncomputable def Hn(c:Cfg)(j:Bool):List Ex->Fm->bF Rv
 |[],_=>none
 |e::es,Y=>aT (ev c e Y) λr Y=>mo (c5 r) λd=>match es with
   |[]=>some (.ok r,Y)
   |_::_=>if tD d=j then Hn c j es Y else some (.ok r,Y)
noncomputable def df(c:Cfg):List Ex->Fm->bF Bool
 |[],Y=>some (.ok true,Y)
 |e::es,Y=>aT (ev c e Y) λr Y=>mo (d6 Y r) λd=>if tD d then df c es Y else some (.ok false,Y)
end
noncomputable def I5:Option D->Bool
 |some (.list _)=>true
 |_=>false
noncomputable def Tgt.isTup:Tgt->Bool
 |.one _=>false
 |.tup _=>true
noncomputable def Du:D->D->D->Option D
 |.dict kvs,.str k,d=>if kvs.length<Sz then some (.dict<|dO kvs k d) else none
 |_,_,_=>none
noncomputable def IU(m:bF Rv):bF bN:=match m with
 |some (.ok<|.fz d,Y)=>some (.ok<|.ret<|.fz d,Y)
 |_=>none
noncomputable def Ff(c:Cfg)(e:Str):List (Str×Ex)->Fm->bF bN
 |[],_=>none
 |p::hs,Y=>if p.1=e then IU (ev {c with hd:=true} p.2 Y) else Ff c e hs Y
mutual
noncomputable def sB(c:Cfg):St->Fm->bF bN
 |.asg t e,Y=>if c.hd&&t.isTup then none else aT (ev c e Y) λr Y=>mo (asgT c.pin Y t r) λY=>some (.ok .next,Y)
 |.setI p i e,Y=>aT (ev c e Y) λr Y=>if (iU Y p).isSome then aT (ev c i Y) λk Y=>mo (c5 r) λd=>mo (c5 k) λk=>mo (iU Y p) λo=>mo (Du o k d) λo'=>some (.ok .next,qy Y p o')
  else none
 |.app p e,Y=>if I5 (iU Y p) then aT (ev c e Y) λr Y=>mo (c5 r) λd=>Lh (iU Y p) Y p d
  else none
 |.exp e,Y=>aT (ev c e Y) λaa Y=>some (.ok .next,Y)
 |.iff t a b,Y=>aT (ev c t Y) λx Y=>mo (d6 Y x) λd=>if tD d then dD c a Y else dD c b Y
 |.ret e,Y=>aT (ev c e Y) λr Y=>IW r Y
 |.for_ t it bG body ct,Y=>if c.hd then none else aT (jF c bG Y) λrs Y=>mo (eC rs) λX=>mo (b4 it X) λac=>AY (f:=⟨λd Y=>mo (asgT c.pin Y t<|.fz d) λY=>dD c body Y⟩) ct ac Y
 |.whl t body ct,Y=>if c.hd then none else Qc (t:=⟨λaa Y=>aT (ev c t Y) λr Y=>mo (d6 Y r) λd=>some (.ok<|tD d,Y)⟩) (f:=⟨λaa Y=>dD c body Y⟩) ct Wz Y
 |.no,_=>none
 |.new f as args body,Y=>if c.hd then none else aT (jF c args Y) λrs Y=>mo (eC rs) λX=>mo (c.call false f<|fP as++X.map .fz) λo=>if Ny o.1 then mo (dD c body<|eB Y as o.2) λx=>some (x.1,clr x.2<|nx as) else none
 |.raise k,Y=>if c.hd then none else some (.error k,Y)
 |.tryx body hs,Y=>if c.hd then none else match dD c body Y with
  |none=>none
  |some (.ok k,Y)=>some (.ok k,Y)
  |some (.error e,Y)=>Ff c e hs Y
 |.tab0 i,Y=>if c.hd||c.pin.contains i then none else some (.ok .next,Y.set i<|.tab [])
 |.tset i k e,Y=>aT (ev c e Y) λr Y=>aT (ev c k Y) λx Y=>mo (c5 r) λd=>mo (c5 x) λx=>mo (lA Y[i]?) λX=>if fH x=true/\bK x X=none/\X.length<Sz then some (.ok .next,Y.set i<|.tab<|X++[(x,d)]) else none
noncomputable def dD(c:Cfg):List St->Fm->bF bN
 |[],Y=>some (.ok .next,Y)
 |s::ss,Y=>aT (sB c s Y)<|PB<|dD c ss
end
structure Fn where
 np:Nat
 nv:Nat
 body:List St
 na:Nat
 rb:VS
structure Pr where
 glob:VX
 fns:List Fn
noncomputable def A1(na:Nat)(args:List Slot)(m:bF bN):Option (VW Rv×List Slot):=
 match m with
 |none=>none
 |some (.error e,Y)=>some (.error e,hG na args Y)
 |some (.ok .next,Y)=>some (.ok<|.fz .none,hG na args Y)
 |some (.ok<|.ret r,Y)=>some (.ok r,hG na args Y)
noncomputable def cF(P:Pr):Nat->Bool->Nat->List Slot->Option (VW Rv×List Slot)
 |0,_,_,_=>none
 |n+1,hd,f,args=>match P.fns[f]? with
  |none=>none
  |some fn=>if args.length=fn.np then A1 fn.na args (dD ⟨P.glob,cF P n,fF fn.na fn.rb args,hd⟩ fn.body<|args++replicate (fn.nv-fn.np) .no) else none
end Mv
namespace Mv
inductive NE where|v(i:Nat)|c(n:Nat)|a(x y:NE)|m(k:Nat)(x:NE)
inductive IE where|v(i:Nat)|c(z:Int)|n(x:NE)|a(x y:IE)|s(x y:IE)|g(x:IE)|m(k:Int)(x:IE)
noncomputable abbrev NE.x:NE:=.v 0
noncomputable abbrev NE.y:NE:=.v 1
noncomputable abbrev NE.z:NE:=.v 2
noncomputable abbrev NE.u:NE:=.v 3
noncomputable abbrev IE.x:IE:=.v 0
noncomputable abbrev IE.y:IE:=.v 1
noncomputable abbrev IE.z:IE:=.v 2
noncomputable abbrev IE.u:IE:=.v 3
noncomputable abbrev NE.p(n:Nat)(x:NE):NE:=.a x<|.c n
noncomputable abbrev IE.p(n:Int)(x:IE):IE:=.a x<|.c n
noncomputable def O3:VS->Nat->Nat
 |[],_=>0
 |x::_,0=>x
 |_::l,i+1=>O3 l i
noncomputable def O4:List Int->Nat->Int
 |[],_=>0
 |x::_,0=>x
 |_::l,i+1=>O4 l i
noncomputable def NE.d(ns:VS):NE->Nat
 |.v i=>O3 ns i
 |.c n=>n
 |.a x y=>x.d ns+y.d ns
 |.m k x=>k*x.d ns
noncomputable def IE.d(ns:VS)(is:List Int):IE->Int
 |.v i=>O4 is i
 |.c z=>z
 |.n x=>((x.d ns:Nat):Int)
 |.a x y=>x.d ns is+y.d ns is
 |.s x y=>x.d ns is-y.d ns is
 |.g x=>- x.d ns is
 |.m k x=>k*x.d ns is
noncomputable def oc:List Int->List Int->List Int
 |[],l=>l
 |l,[]=>l
 |x::l,y::r=>(x+y)::oc l r
noncomputable def p9(k:Int)(l:List Int):List Int:=l.map (k * ·)
noncomputable def unit:Nat->List Int
 |0=>[1]
 |i+1=>0::unit i
structure LF where
 k:Int
 n:List Int
 i:List Int
noncomputable def LF.add(x y:LF):LF:=⟨x.k+y.k,oc x.n y.n,oc x.i y.i⟩
noncomputable def LF.mul(k:Int)(x:LF):LF:=⟨k*x.k,p9 k x.n,p9 k x.i⟩
noncomputable def NE.l:NE->LF
 |.v i=>⟨0,unit i,[]⟩
 |.c n=>⟨n,[],[]⟩
 |.a x y=>x.l.add y.l
 |.m k x=>x.l.mul k
noncomputable def IE.l:IE->LF
 |.v i=>⟨0,[],unit i⟩
 |.c z=>⟨z,[],[]⟩
 |.n x=>x.l
 |.a x y=>x.l.add y.l
 |.s x y=>x.l.add<|y.l.mul<|-1
 |.g x=>x.l.mul<|-1
 |.m k x=>x.l.mul k
noncomputable def fV:List Int->VS->Int
 |x::l,y::r=>x*y+fV l r
 |_,_=>0
noncomputable def fA:List Int->List Int->Int
 |x::l,y::r=>x*y+fA l r
 |_,_=>0
noncomputable def LF.d(ns:VS)(is:List Int)(x:LF):Int:=x.k+fV x.n ns+fA x.i is
theorem PV(a b c d:Int):a+b+(c+d)=a+c+(b+d):=by rw[Int.add_assoc,Int.add_assoc,Int.add_left_comm b]
theorem m1(y:Int): -1*y = -y:=by rw[Int.neg_mul,Int.one_mul]
theorem BJ:∀(a b:List Int)(r:VS),fV (oc a b) r=fV a r+fV b r:=by intro a b r;induction a generalizing b r with
 |nil=>exact(ZR _).symm
 |cons x a ih=>cases b with
  |nil=>exact(ZY _).symm
  |cons y b=>cases r with
   |nil=>exact rfl
   |cons z r=>
     show(x+y)*(z:Int)+fV (oc a b) r=x*z+fV a r+(y*z+fV b r)
     rw[ih b r,Int.add_mul];exact PV _ _ _ _
theorem BL:∀(a b:List Int)(r:List Int),fA (oc a b) r=fA a r+fA b r:=by intro a b r;induction a generalizing b r with
 |nil=>exact(ZR _).symm
 |cons x a ih=>cases b with
  |nil=>exact(ZY _).symm
  |cons y b=>cases r with
   |nil=>exact rfl
   |cons z r=>
     show(x+y)*z+fA (oc a b) r=x*z+fA a r+(y*z+fA b r)
     rw[ih b r,Int.add_mul];exact PV _ _ _ _
theorem BI(k:Int):∀(a:List Int)(r:VS),fV (p9 k a) r=k*fV a r:=by intro a r;induction a generalizing r with
 |nil=>exact(mul_zero k).symm
 |cons x a ih=>cases r with
  |nil=>exact(mul_zero k).symm
  |cons z r=>
    show k*x*(z:Int)+fV (p9 k a) r=k*(x*z+fV a r)
    rw[ih r,mul_add,Int.mul_assoc]
theorem BK(k:Int):∀(a:List Int)(r:List Int),fA (p9 k a) r=k*fA a r:=by intro a r;induction a generalizing r with
 |nil=>exact(mul_zero k).symm
 |cons x a ih=>cases r with
  |nil=>exact(mul_zero k).symm
  |cons z r=>
    show k*x*z+fA (p9 k a) r=k*(x*z+fA a r)
    rw[ih r,mul_add,Int.mul_assoc]
theorem xx:∀(i:Nat)(r:VS),fV (unit i) r=(O3 r i:Int):=by intro i r;induction i generalizing r with
 |zero=>cases r with
  |nil=>exact rfl
  |cons x r=>show 1*(x:Int)+0=x;rw[Int.one_mul,ZY]
 |succ i ih=>cases r with
  |nil=>exact rfl
  |cons x r=>show 0*(x:Int)+fV (unit i) r=(O3 r i:Int);rw[ih r,Int.zero_mul,ZR]
theorem xz:∀(i:Nat)(r:List Int),fA (unit i) r=O4 r i:=by intro i r;induction i generalizing r with
 |zero=>cases r with
  |nil=>exact rfl
  |cons x r=>show 1*x+0=x;rw[Int.one_mul,ZY]
 |succ i ih=>cases r with
  |nil=>exact rfl
  |cons x r=>show 0*x+fA (unit i) r=O4 r i;rw[ih r,Int.zero_mul,ZR]
theorem LF.d_add(ns:VS)(is:List Int)(x y:LF):(x.add y).d ns is=x.d ns is+y.d ns is:=by
 show x.k+y.k+fV (oc x.n y.n) ns+fA (oc x.i y.i) is=(x.k+fV x.n ns+fA x.i is)+(y.k+fV y.n ns+fA y.i is)
 rw[BJ,BL,PV x.k];exact PV _ _ _ _
theorem LF.d_mul(ns:VS)(is:List Int)(k:Int)(x:LF):(x.mul k).d ns is=k*x.d ns is:=by
 show k*x.k+fV (p9 k x.n) ns+fA (p9 k x.i) is=k*(x.k+fV x.n ns+fA x.i is)
 rw[BI,BK,mul_add,mul_add]
theorem LF.d_sub(ns:VS)(is:List Int)(x y:LF):(x.add<|y.mul<|-1).d ns is=x.d ns is-y.d ns is:=by rw[LF.d_add,LF.d_mul,m1,Int.sub_eq_add_neg]
theorem NE.l_d(ns:VS)(is:List Int):∀e:NE,e.l.d ns is=(e.d ns:Int)
 |.v i=>by show 0+fV (unit i) ns+0=(O3 ns i:Int);rw[xx,ZR,ZY]
 |.c n=>by show(n:Int)+0+0=n;rw[ZY,ZY]
 |.a x y=>by show(x.l.add y.l).d ns is=((x.d ns+y.d ns:Nat):Int);rw[LF.d_add,NE.l_d ns is x,NE.l_d ns is y,natCast_add]
 |.m k x=>by show(x.l.mul k).d ns is=((k*x.d ns:Nat):Int);rw[LF.d_mul,NE.l_d ns is x,Int.natCast_mul]
theorem IE.l_d(ns:VS)(is:List Int):∀e:IE,e.l.d ns is=e.d ns is
 |.v i=>by show 0+0+fA (unit i) is=O4 is i;rw[xz,ZY,ZR]
 |.c z=>by show z+0+0=z;rw[ZY,ZY]
 |.n x=>NE.l_d ns is x
 |.a x y=>by show(x.l.add y.l).d ns is=x.d ns is+y.d ns is;rw[LF.d_add,IE.l_d ns is x,IE.l_d ns is y]
 |.s x y=>by show(x.l.add<|y.l.mul<|-1).d ns is=x.d ns is-y.d ns is;rw[LF.d_sub,IE.l_d ns is x,IE.l_d ns is y]
 |.g x=>by show(x.l.mul<|-1).d ns is = - x.d ns is;rw[LF.d_mul,IE.l_d ns is x,m1]
 |.m k x=>by show(x.l.mul k).d ns is=k*x.d ns is;rw[LF.d_mul,IE.l_d ns is x]
inductive Cn where|i(x y:IE)|j(x y:IE)|w(x y:NE)|e(x y:NE)
noncomputable abbrev Cn.le(x y:IE):Cn:=.i x y
noncomputable abbrev Cn.eq(x y:IE):Cn:=.j x y
noncomputable abbrev Cn.nle(x y:NE):Cn:=.w x y
noncomputable abbrev Gl(x y:NE):Int×Cn:=(1,.w x y)
noncomputable abbrev Ge(x y:NE):Int×Cn:=(1,.e x y)
noncomputable abbrev Gf(x y:NE):Int×Cn:=(-1,.e x y)
noncomputable abbrev Gi(x y:IE):Int×Cn:=(1,.i x y)
noncomputable abbrev Gj(x y:IE):Int×Cn:=(1,.j x y)
noncomputable abbrev Gk(x y:IE):Int×Cn:=(-1,.j x y)
noncomputable abbrev Gp(x y:NE):Int×Int×Cn:=(1,-1,.e x y)
noncomputable abbrev Gq(x y:NE):Int×Int×Cn:=(-1,1,.e x y)
noncomputable abbrev Gr(x y:IE):Int×Int×Cn:=(1,-1,.j x y)
def Cn.d(ns:VS)(is:List Int):Cn->Prop
 |.i x y=>x.d ns is<=y.d ns is
 |.j x y=>x.d ns is=y.d ns is
 |.w x y=>x.d ns<=y.d ns
 |.e x y=>x.d ns=y.d ns
noncomputable def Cn.l:Cn->LF
 |.i x y=>y.l.add<|x.l.mul<|-1
 |.j x y=>y.l.add<|x.l.mul<|-1
 |.w x y=>y.l.add<|x.l.mul<|-1
 |.e x y=>y.l.add<|x.l.mul<|-1
noncomputable def Cn.ok(k:Int):Cn->Bool
 |.i _ _=>decide<|0<=k
 |.j _ _=>true
 |.w _ _=>decide<|0<=k
 |.e _ _=>true
theorem Cn.nn{is:List Int}{k:Int}{c:Cn}(h:c.d ns is)(o:c.ok k=true):0<=(c.l.mul k).d ns is:=by rw[LF.d_mul];cases c with
 |i x y=>
  show 0<=k*(y.l.add<|x.l.mul<|-1).d ns is
  rw[LF.d_sub,IE.l_d,IE.l_d];exact mul_nonneg (YW o)<|Int.sub_nonneg_of_le h
 |j x y=>
  show 0<=k*(y.l.add<|x.l.mul<|-1).d ns is
  rw[LF.d_sub,IE.l_d,IE.l_d,show x.d ns is=y.d ns is from h,Int.sub_self,mul_zero];exact Int.le_refl _
 |w x y=>
  show 0<=k*(y.l.add<|x.l.mul<|-1).d ns is
  rw[LF.d_sub,NE.l_d,NE.l_d];exact mul_nonneg (YW o)<|Int.sub_nonneg_of_le<|ofNat_le.mpr h
 |e x y=>
  show 0<=k*(y.l.add<|x.l.mul<|-1).d ns is
  rw[LF.d_sub,NE.l_d,NE.l_d,show x.d ns=y.d ns from h,Int.sub_self,mul_zero];exact Int.le_refl _
noncomputable def qm:List (Int×Cn)->LF
 |[]=>⟨0,[],[]⟩
 |(k,c)::cs=>(c.l.mul k).add<|qm cs
noncomputable def LR:List (Int×Cn)->Bool
 |[]=>true
 |(k,c)::cs=>c.ok k&&LR cs
noncomputable def LF.neg(x:LF):Bool:=decide (x.k<0)&&(x.n.all (λz=>decide<|z<=0)&&x.i.all λz=>decide<|z=0)
theorem FH:∀(a:List Int)(r:VS),(a.all λz=>decide<|z<=0)=true->fV a r<=0:=by intro a r;induction a generalizing r with
 |nil=>exact @λaa=>Int.le_refl 0
 |cons x a ih=>cases r with
  |nil=>exact @λaa=>Int.le_refl 0
  |cons z r=>intro h;rw[all_cons,Z8,YZ]at h;exact Int.add_le_add (Int.mul_nonpos_of_nonpos_of_nonneg h.1<|ZV z)<|ih r h.2
theorem xy:∀(a r:List Int),(a.all λz=>decide<|z=0)=true->fA a r=0:=by intro a r;induction a generalizing r with
 |nil=>exact @λaa=>rfl
 |cons x a ih=>cases r with
  |nil=>exact @λaa=>rfl
  |cons z r=>
    intro h;rw[all_cons,Z8,YZ]at h;show x*z+fA a r=0
    rw[ih r h.2,h.1,Int.zero_mul,ZY]
theorem LF.neg_d{is:List Int}{x:LF}(h:x.neg=true):x.d ns is<0:=by unfold LF.neg at h;rw[Z8,Z8,YZ]at h;have h1:=FH x.n ns h.2.1;have h2:=xy x.i is h.2.2;unfold LF.d;omega
def imp(ns:VS)(is:List Int)(G:Prop):List (Int×Cn)->Prop
 |[]=>G
 |(_,c)::cs=>c.d ns is->imp ns is G cs
theorem AC{is:List Int}{G:Prop}:∀(cs:List (Int×Cn))(VM:Int),LR cs=true->0<=VM->(VM+(qm cs).d ns is<0\/(0<=VM+(qm cs).d ns is->G))->imp ns is G cs:=by intro cs;induction cs with
 |nil=>
  intro VM _ h0 h;have e:(qm []).d ns is=0:=by show(0:Int)+0+0=0;rfl
  rw[e,ZY]at h;exact h.elim (λq=>absurd h0<|Int.not_le.mpr q) λq=>q h0
 |cons p0 cs ih=>obtain⟨k,c⟩:=p0;intro VM ho h0 h;intro hc;rw[show LR ((k,c)::cs)=(c.ok k&&LR cs) from rfl,Z8]at ho;have n:=Cn.nn (k:=k) hc ho.1;refine ih (VM+(c.l.mul k).d ns is) ho.2 (by omega) ?_;have e:(qm ((k,c)::cs)).d ns is=(c.l.mul k).d ns is+(qm cs).d ns is:=LF.d_add ..;rw[e,<- Int.add_assoc]at h;exact h
noncomputable def Cn.den:Cn->LF
 |.i x y=>(x.l.add<|y.l.mul<|-1).add ⟨-1,[],[]⟩
 |.w x y=>(x.l.add<|y.l.mul<|-1).add ⟨-1,[],[]⟩
 |_=>⟨0,[],[]⟩
noncomputable def Cn.isLe:Cn->Bool
 |.i _ _=>true
 |.w _ _=>true
 |_=>false
theorem Mn{a b:Int}(h:a-b + -1<0):a<=b:=by omega
theorem Cn.den_d{is:List Int}{c:Cn}(hl:c.isLe=true)(h:c.den.d ns is<0):c.d ns is:=by
 have key:∀x y:LF,((x.add<|y.mul<|-1).add ⟨-1,[],[]⟩).d ns is=x.d ns is-y.d ns is + -1:=λx y=>by rw[LF.d_add,LF.d_sub];rfl
 cases c with
 |i x y=>have h:((x.l.add<|y.l.mul<|-1).add ⟨-1,[],[]⟩).d ns is<0:=h;rw[key,IE.l_d,IE.l_d]at h;exact Mn h
 |w x y=>have h:((x.l.add<|y.l.mul<|-1).add ⟨-1,[],[]⟩).d ns is<0:=h;rw[key,NE.l_d,NE.l_d]at h;exact ofNat_le.mp<|Mn h
 |j x y=>cases hl
 |e x y=>cases hl
noncomputable def chk(g:Int)(G:Cn)(cs:List (Int×Cn)):Bool:=decide (0<=g)&&(G.isLe&&(LR cs&&((G.den.mul g).add<|qm cs).neg))
theorem dJ(ns:VS)(is:List Int)(g:Int)(G:Cn)(cs:List (Int×Cn))(h:chk g G cs=true):imp ns is (G.d ns is) cs:=by unfold chk at h;rw[Z8,Z8,Z8,YZ]at h;obtain⟨h0,h1,h2,h3⟩:=h;refine AC cs 0 h2 (Int.le_refl _)<|.inr λhs=>?_;rw[ZR]at hs;have hn:=LF.neg_d (ns:=ns) (is:=is) h3;rw[LF.d_add,LF.d_mul]at hn;refine Cn.den_d h1<|Int.not_le.mp λq=>?_;have:=mul_nonneg h0 q;omega
noncomputable def Cn.fw:Cn->Cn
 |.i x y=>.i x y
 |.j x y=>.i x y
 |.w x y=>.w x y
 |.e x y=>.w x y
noncomputable def Cn.bw:Cn->Cn
 |.i x y=>.i x y
 |.j x y=>.i y x
 |.w x y=>.w x y
 |.e x y=>.w y x
noncomputable def f1(p:Int×Int×Cn):Int×Cn:=(p.1,p.2.2)
noncomputable def f2(p:Int×Int×Cn):Int×Cn:=(p.2.1,p.2.2)
theorem EH{is:List Int}{P Q R:Prop}(k:P->Q->R)(cs:List (Int×Int×Cn)):imp ns is P (cs.map f1)->imp ns is Q (cs.map f2)->imp ns is R (cs.map f1):=by induction cs with
 |nil=>exact k
 |cons p cs ih=>exact λa b h=>ih (a h)<|b h
theorem QE(ns:VS)(is:List Int)(G:Cn)(cs:List (Int×Int×Cn))(h:(chk 1 G.fw (cs.map f1)&&chk 1 G.bw (cs.map f2))=true):imp ns is (G.d ns is) (cs.map f1):=by rw[Z8]at h;refine EH ?_ cs (dJ ns is 1 _ _ h.1)<|dJ ns is 1 _ _ h.2;cases G with
 |i x y=>exact λp aa=>p
 |j x y=>exact λp q=>ZX p q
 |w x y=>exact λp aa=>p
 |e x y=>exact λp q=>Zk p q
theorem Le(ns:VS)(G:Cn)(cs:List (Int×Int×Cn))(h:(chk 1 G.fw (cs.map f1)&&chk 1 G.bw (cs.map f2))=true):imp ns [] (G.d ns []) (cs.map f1):=QE ns [] G cs h
theorem Ln(ns:VS)(G:Cn)(cs:List (Int×Cn))(h:chk 1 G cs=true):imp ns [] (G.d ns []) cs:=dJ ns [] 1 G cs h
theorem L1(ns:VS)(a b c d:NE)(h:chk 1 (.w a b) [(1,.w c d)]=true):imp ns [] ((Cn.w a b).d ns []) [(1,.w c d)]:=Ln ns _ _ h
theorem L0(ns:VS)(a b:NE)(h:chk 1 (.w a b) []=true):imp ns [] ((Cn.w a b).d ns []) []:=Ln ns _ _ h
theorem Li(is:List Int)(G:Cn)(cs:List (Int×Cn))(h:chk 1 G cs=true):imp [] is (G.d [] is) cs:=dJ [] is 1 G cs h
noncomputable def chkF(cs:List (Int×Cn)):Bool:=LR cs&&(qm cs).neg
theorem lT(ns:VS)(is:List Int)(cs:List (Int×Cn))(h:chkF cs=true):imp ns is False cs:=by unfold chkF at h;rw[Z8]at h;refine AC cs 0 h.1 (Int.le_refl _)<|.inl ?_;rw[ZR];exact LF.neg_d h.2
theorem Lf(ns:VS)(cs:List (Int×Cn))(h:chkF cs=true):imp ns [] False cs:=lT ns [] cs h
open PySem
theorem ut(f:Kt D (Option D))(cl:VS)(d:D)(X:VX)(Y:Fm): @rQ f cl (d::X) Y=aT (f.run d<|clr Y cl) λr Y=>aT (@rQ f cl X Y) (RF r):=by first|rfl|kernel_rfl
theorem w9(f:Kt D bN)(cl:VS)(d:D)(X:VX)(Y:Fm): @AY f cl (d::X) Y=aT (f.run d<|clr Y cl) λc Y=>match c with
  |.next=>@AY f cl X Y
  |.ret r=>some (.ok<|.ret r,Y):=by first|rfl|kernel_rfl
theorem La(q:bF α): @mF _ _ q ⟨λrs Y=>some (.ok rs,Y)⟩=q:=by rcases q with _|⟨_|_,_⟩<;>rfl
section
variable (c:Cfg)(Y:Fm)
theorem Ko(i:Nat):ev c (.var i) Y=CW Y[i]? Y i:=by first|rfl|kernel_rfl
theorem vA(j:Bool)(es:List Ex):ev c (.bo j es) Y=Hn c j es Y:=by first|rfl|kernel_rfl
theorem Og(b:Bi)(args:List Ex):ev c (.bi b args) Y=if c.hd&&b.loops then none else mF (k:=⟨λrs Y=>mo (ju Y rs) λX=>DV Y<|jm b X⟩) (jF c args Y):=by first|rfl|kernel_rfl
noncomputable def bB(cX:Ex)(t:Tgt)(aw:List Ex)(ac:VX):bF VX:=
 rQ (f:=⟨λd Y=>mo (asgT c.pin Y t<|.fz d) λY=>aT (df c aw Y) λb Y=>if b then aT (ev c cX Y) λr Y=>th Y ((c5 r).map some) else some (.ok none,Y)⟩) (aQ t) ac Y
theorem Fg(cX:Ex)(t:Tgt)(it:gM)(bG aw:List Ex):ev c (.comp cX t it bG aw) Y=if c.hd then none else mF (k:=⟨λrs Y=>mo (eC rs) λX=>mo (b4 it X) λac=>O0 (k:=⟨λX Y=>some (.ok<|.KK<|.list X,Y)⟩) (aQ t)<|bB c Y cX t aw ac⟩) (jF c bG Y):=by first|rfl|kernel_rfl
theorem aL(cX:Ex)(t:Tgt)(aw:List Ex):bB c Y cX t aw []=some (.ok [],clr Y<|aQ t):=by first|rfl|kernel_rfl
theorem uu(cX:Ex)(t:Tgt)(aw:List Ex)(d:D)(X:VX):bB c Y cX t aw (d::X) =
  mo (asgT c.pin (clr Y<|aQ t) t<|.fz d) λY=>mF (k:=⟨λb Y=>if b=true then mF (k:=⟨λr Y=>match c5 r with
    |none=>none
    |some x=>mF (k:=⟨λrs Y=>some (.ok (x::rs),Y)⟩)<|bB c Y cX t aw X⟩) (ev c cX Y) else bB c Y cX t aw X⟩) (df c aw Y):=by
 unfold bB;refine(ut _ _ _ _ _).trans ?_;dsimp only;cases asgT c.pin (clr Y<|aQ t) t (.fz d) with
 |none=>rfl
 |some Y=>
  dsimp only[aT];rw[wJ,wJ];rcases df c aw Y with _|⟨_|b,Y⟩
  .rfl
  .rfl
  .rw[jh,jh];cases b with
   |false=>simp only[false_eq_true,if_false,jh];exact La _
   |true=>
    simp only[if_true];rcases ev c cX Y with _|⟨_|r,Y⟩
    .rfl
    .rfl
    .rw[jh,jh];cases c5 r with
     |none=>rfl
     |some x=>rfl
theorem fg(e:Ex)(es:List Ex):jF c (e::es) Y=mF (k:=⟨λr Y=>mF (k:=⟨λrs Y=>some (.ok (r::rs),Y)⟩)<|jF c es Y⟩) (ev c e Y):=by first|rfl|kernel_rfl
theorem vB(j:Bool)(e:Ex):Hn c j [e] Y=mF (k:=⟨λr Y=>mo (c5 r) λaa=>some (.ok r,Y)⟩) (ev c e Y):=by first|rfl|kernel_rfl
theorem rI(j:Bool)(e e':Ex)(es:List Ex):Hn c j (e::e'::es) Y=mF (k:=⟨λr Y=>mo (c5 r) λd=>if tD d=j then Hn c j (e'::es) Y else some (.ok r,Y)⟩) (ev c e Y):=by first|rfl|kernel_rfl
theorem ph(e:Ex)(es:List Ex):df c (e::es) Y=mF (k:=⟨λr Y=>mo (d6 Y r) λd=>if tD d then df c es Y else some (.ok false,Y)⟩) (ev c e Y):=by first|rfl|kernel_rfl
noncomputable def cm(t:Tgt)(body:List St)(ct:VS)(ac:VX):bF bN:=
 AY (f:=⟨λd Y=>mo (asgT c.pin Y t<|.fz d) λY=>dD c body Y⟩) ct ac Y
theorem Fe(t:Tgt)(it:gM)(bG:List Ex)(body:List St)(ct:VS):sB c (.for_ t it bG body ct) Y=if c.hd then none else mF (k:=⟨λrs Y=>mo (eC rs) λX=>mo (b4 it X) λac=>cm c Y t body ct ac⟩) (jF c bG Y):=by first|rfl|kernel_rfl
theorem bb(t:Tgt)(body:List St)(ct:VS):cm c Y t body ct []=some (.ok .next,clr Y ct):=by first|rfl|kernel_rfl
theorem xd(t:Tgt)(body:List St)(ct:VS)(d:D)(X:VX):cm c Y t body ct (d::X) =
  mo (asgT c.pin (clr Y ct) t<|.fz d) λY=>mF (k:=⟨λk Y=>match k with
   |.next=>cm c Y t body ct X
   |.ret r=>some (.ok<|.ret r,Y)⟩) (dD c body Y):=by
 unfold cm;refine(w9 _ _ _ _ _).trans ?_;dsimp only;cases asgT c.pin (clr Y ct) t (.fz d) with
 |none=>rfl
 |some Y=>rfl
noncomputable def yb(t:Ex)(body:List St)(ct:VS)(n:Nat):bF bN:=
 Qc (t:=⟨λaa Y=>aT (ev c t Y) λr Y=>mo (d6 Y r) λd=>some (.ok<|tD d,Y)⟩) (f:=⟨λaa Y=>dD c body Y⟩) ct n Y
theorem Fc(t:Ex)(body:List St)(ct:VS):sB c (.whl t body ct) Y=if c.hd then none else yb c Y t body ct Wz:=by first|rfl|kernel_rfl
theorem yo(t:Ex)(body:List St)(ct:VS)(n:Nat):yb c Y t body ct (n+1) =
  mF (k:=⟨λb Y=>match b with
   |true=>mF (k:=⟨λk Y=>match k with
    |.next=>yb c Y t body ct n
    |.ret r=>some (.ok<|.ret r,Y)⟩) (dD c body Y)
   |false=>some (.ok .next,Y)⟩) (aT (ev c t<|clr Y ct) λr Y=>mo (d6 Y r) λd=>some (.ok<|tD d,Y)):=by first|rfl|kernel_rfl
theorem xp(k:Str):sB c (.raise k) Y=if c.hd then none else some (.error k,Y):=by first|rfl|kernel_rfl
noncomputable def H6(hs:List (Str×Ex))(m:bF bN):bF bN:=match m with
 |none=>none
 |some (.ok k,Y)=>some (.ok k,Y)
 |some (.error e,Y)=>Ff c e hs Y
theorem Bl(body:List St)(hs:List (Str×Ex)):sB c (.tryx body hs) Y=if c.hd then none else H6 c hs (dD c body Y):=by first|rfl|kernel_rfl
theorem C0(hs:List (Str×Ex))(k:bN):H6 c hs (some (.ok k,Y))=some (.ok k,Y):=by first|rfl|kernel_rfl
theorem yt(hs:List (Str×Ex))(e:Str):H6 c hs (some (.error e,Y))=Ff c e hs Y:=by first|rfl|kernel_rfl
theorem Hk(e:Str)(p:Str×Ex)(hs:List (Str×Ex)):Ff c e (p::hs) Y=if p.1=e then IU (ev {c with hd:=true} p.2 Y) else Ff c e hs Y:=by first|rfl|kernel_rfl
noncomputable def Qu(as:VS)(m:bF bN):bF bN:=match m with
 |some (r,Y)=>some (r,clr Y<|nx as)
 |none=>none
theorem Fd(f:Nat)(as:VS)(args:List Ex)(body:List St):sB c (.new f as args body) Y=if c.hd then none else mF (k:=⟨λrs Y=>match eC rs with
  |none=>none
  |some X=>(match c.call false f (fP as++X.map .fz) with
   |some (o,aM)=>if Ny o then Qu as (dD c body<|eB Y as aM) else none
   |none=>none)⟩) (jF c args Y):=by first|rfl|kernel_rfl
theorem j8(s:St)(ss:List St):dD c (s::ss) Y=mF (k:=⟨λk Y=>match k with
  |.next=>dD c ss Y
  |.ret r=>some (.ok<|.ret r,Y)⟩) (sB c s Y):=by rfl
end
theorem Ji(a b:Int):op2 .add (.int a) (.int b)=some (.fz<|.int<|a+b):=by first|rfl|kernel_rfl
theorem zq(a b:Str):op2 .add (.str a) (.str b)=if a.cps.size+b.cps.size<=Sz then some (.fz<|.str ⟨a.cps++b.cps⟩) else none:=by first|rfl|kernel_rfl
theorem zp(a b:VX):op2 .add (.tuple a) (.tuple b)=if a.length+b.length<=Sz then some (.fz<|.tuple<|a++b) else none:=by first|rfl|kernel_rfl
theorem lN(a b:VX):op2 .add (.list a) (.list b)=if a.length+b.length<=Sz then some (.KK<|.list<|a++b) else none:=by first|rfl|kernel_rfl
theorem oG(a b:Int):op2 .fdiv (.int a) (.int b)=if b≠0/\b.natAbs<2 ^ 64 then some (.fz<|.int<|a.fdiv b) else none:=by first|rfl|kernel_rfl
theorem MG(a b:Int):op2 .mod (.int a) (.int b)=if b=0 then none else some (.fz<|.int<|a.fmod b):=by first|rfl|kernel_rfl
theorem jN(a:D):jm .len [a]=(D9 a).map λ(n:Nat)=>.fz (.int n):=by first|rfl|kernel_rfl
theorem O1(M:VX):jm .sum [.list M]=(sR 0 M).map .fz:=by first|rfl|kernel_rfl
theorem O2(a:Int):jm .abs [.int a]=some (.fz<|.int a.natAbs):=by first|rfl|kernel_rfl
theorem Oi(a b:Int):eqD (.int a) (.int b)=some (a==b):=by first|rfl|kernel_rfl
theorem Bv(a b:VX):eqD (.list a) (.list b)=if fh (.list a) (.list b) then some (eqv (.list a)<|.list b) else none:=by first|rfl|kernel_rfl
theorem DF{rs:List Rv}:d7 (.pl (.var i)::rs)=i::d7 rs:=by first|rfl|kernel_rfl
theorem xG{Y:Fm}{r:Rv}{rs:List Rv}{s:Slot}{ss aM:List Slot}:dg Y (r::rs) (s::ss) aM=if s.lent then(match aM with
   |o::os=>(match r with
    |.pl (.var i)=>dg (Y.set i o) rs ss os
    |_=>dg Y rs ss os)
   |[]=>Y) else dg Y rs ss aM:=by first|rfl|kernel_rfl
theorem y5{s:Slot}{ss:List Slot}{Y:Fm}:g9 (s::ss) Y=if s.lent then Y.headD .no::g9 ss Y.tail else g9 ss Y.tail:=by first|rfl|kernel_rfl
theorem qA{k:Nat}{s:Slot}{ss:List Slot}:i9 k (s::ss)=if s.lent then k::i9 (k+1) ss else i9 (k+1) ss:=by first|rfl|kernel_rfl
theorem yS{Y:Fm}{r:Rv}{rs:List Rv}:ju Y (r::rs)=(match d6 Y r,ju Y rs with
  |some d,some X=>some (d::X)
  |_,_=>none):=by first|rfl|kernel_rfl
theorem gY{r:Rv}{rs:List Rv}:eC (r::rs)=(match c5 r,eC rs with
  |some d,some X=>some (d::X)
  |_,_=>none):=by first|rfl|kernel_rfl
theorem jV:eC []=some []:=by first|rfl|kernel_rfl
theorem IR{r:Rv}{rs:List Rv}{X:VX}(h:eC (r::rs)=some X):∃d iH,c5 r=some d/\eC rs=some iH/\X=d::iH:=by rw[gY]at h;cases q:c5 r with
 |none=>rw[q]at h;exact am h
 |some d=>cases p:eC rs with
  |none=>rw[q,p]at h;exact am h
  |some iH=>rw[q,p]at h;exact⟨d,iH,rfl,rfl,(aE h).symm⟩
theorem yR{Y:Fm}{r:Rv}{rs:List Rv}{X:VX}(h:ju Y (r::rs)=some X):∃d iH,d6 Y r=some d/\ju Y rs=some iH/\X=d::iH:=by rw[yS]at h;cases q:d6 Y r with
 |none=>rw[q]at h;exact am h
 |some d=>cases p:ju Y rs with
  |none=>rw[q,p]at h;exact am h
  |some iH=>rw[q,p]at h;exact⟨d,iH,rfl,rfl,(aE h).symm⟩
theorem sV{Y:Fm}{r:Rv}{X:VX}(h:ju Y [r]=some X):∃d,d6 Y r=some d/\X=[d]:=er (yR h) λd aa z=>⟨d,z.1,z.2.2.trans<|Y2 _ (aE z.2.1).symm⟩
theorem yT{Y:Fm}{r r':Rv}{X:VX}(h:ju Y [r,r']=some X):∃d e,d6 Y r=some d/\d6 Y r'=some e/\X=[d,e]:=er (yR h) λd aa z=>aB (sV z.2.1) λe q=>⟨d,e,z.1,q.1,z.2.2.trans<|Y2 _ q.2⟩
theorem Hm{c:Cfg}{Y:Fm}{x:Ex}{k:List Rv->Fm->bF β}{LT:VW β×Fm}(h:aT (jF c [x] Y) k=some LT):aT (ev c x Y) (λr Y=>k [r] Y)=some LT:=by rw[fg]at h;rcases he:ev c x Y with _|⟨_|r,f⟩<;>(rw[he]at h;exact h)
theorem Oe{c:Cfg}{Y:Fm}{x z:Ex}{k:List Rv->Fm->bF β}{LT:VW β×Fm}(h:aT (jF c [x,z] Y) k=some LT):aT (ev c x Y) (λr Y=>aT (ev c z Y) λr' Y=>k [r,r'] Y)=some LT:=by
 rw[fg]at h;rcases he:ev c x Y with _|⟨_|r,f⟩
 .rw[he]at h;exact h
 .rw[he]at h;exact h
 .rw[he]at h;exact Hm (k:=λrs Y=>k (r::rs) Y) (by rcases ez:jF c [z] f with _|⟨_|_,_⟩<;>(have h:aT (aT (jF c [z] f) λrs Y=>some (.ok (r::rs),Y)) k=some LT:=h;rw[ez]at h;exact h))
theorem F8(M:VX)(b:Bool):jm .count [.list M,.bool b]=(gG M).map λbs=>.fz (.int (bs.count b:Nat)):=rfl
theorem Jh(a:Str)(n:Int):op2 .mul (.str a) (.int n)=if -1000000000<=n/\n<=1000000000/\a.cps.size*n.toNat<=Sz then some (.fz<|.str ⟨(rep n a.cps.toList).toArray⟩) else none:=rfl
theorem e_strD(a b:Str):eqD (.str a) (.str b)=some (decide<|a=b):=by
 show some (a.cps.toList==b.cps.toList)=_
 congr 1;obtain⟨⟨l⟩⟩:=a;obtain⟨⟨k⟩⟩:=b;by_cases q:l=k
 .subst q;simp
 .have h1:¬((⟨⟨l⟩⟩:Str)=⟨⟨k⟩⟩):=by intro e;apply q;injection e with e;injection e
  rw[Y1 h1];simpa using q
theorem F7(M:VX)(d:D):jm .index [.list M,d]=if fh (.list M) d then(fS d M).map λ(n:Nat)=>.fz (.int n) else none:=rfl
structure Q(W:Type) where
 bad:W
 b:Option Bool->(Bool->W)->W
 t:Bool->(Bool->W)->W
 v:Option Rv->(Rv->W)->W
 d:Option D->(D->W)->W
 l:Option VX->(VX->W)->W
 lp:bF bN->W->(VW bN->Fm->W)->W
 cp:bF VX->W->(VW VX->Fm->W)->W
 c:Option (VW Rv×List Slot)->(VW Rv->List Slot->W)->W
section
variable {W:Type}
noncomputable def up{α β:Type}(k:VW β->Fm->W)(f:α->Fm->W):VW α->Fm->W
 |.error e,Y=>k (.error e) Y
 |.ok a,Y=>f a Y
noncomputable def dX{α:Type}(q:Q W)(x:Option α)(f:α->W):W:=match x with
 |none=>q.bad
 |some a=>f a
noncomputable def cz(b:Bool)(x y:W):W:=match b with
 |true=>x
 |false=>y
noncomputable def lO:Fm->(Fm->W)->W
 |[],k=>k []
 |s::Y,k=>lO Y λY=>k (s::Y)
noncomputable def LP(q:Q W)(r:Rv)(x:W):W:=match r with
 |.pl _=>q.bad
 |_=>x
noncomputable def Mi(q:Q W)(s:Option Slot)(Y:Fm)(i:Nat)(k:VW Rv->Fm->W):W:=match s with
 |some (.fz d)=>k (.ok<|.fz d) Y
 |some (.KK d)=>lO (Y.set i<|.fz d) λY=>k (.ok<|.fz d) Y
 |_=>q.bad
noncomputable def TL(k:VW VX->Fm->W)(r:Option D)(rs:VX)(Y:Fm):W:=match r with
 |none=>k (.ok rs) Y
 |some x=>k (.ok (x::rs)) Y
noncomputable abbrev Hr(k:VW VX->Fm->W)(r:Option D):VW VX->Fm->W:=up k<|TL k r
noncomputable def Qi(F:Fm->W)(k:VW bN->Fm->W)(r:bN)(Y:Fm):W:=match r with
 |.next=>F Y
 |.ret r=>k (.ok<|.ret r) Y
noncomputable def BR(q:Q W)(one:D->Fm->(VW (Option D)->Fm->W)->W)(x:VX->Fm->bF VX)(cl:VS):VX->Fm->(VW VX->Fm->W)->W
 |[],Y,k=>k (.ok [])<|clr Y cl
 |d::X,Y,k=>lO (clr Y cl) λY=>one d Y<|up k λr Y=>q.cp (x X Y) (BR q one x cl X Y<|Hr k r)<|Hr k r
noncomputable abbrev Kd(q:Q W)(x:Fm->bF bN)(u:Fm->W)(k:VW bN->Fm->W):VW bN->Fm->W:=up k<|Qi (λY=>q.lp (x Y) (u Y) k) k
noncomputable def Kc(q:Q W)(one:D->Fm->(VW bN->Fm->W)->W)(x:VX->Fm->bF bN)(cl:VS):VX->Fm->(VW bN->Fm->W)->W
 |[],Y,k=>k (.ok .next)<|clr Y cl
 |d::X,Y,k=>lO (clr Y cl) λY=>one d Y<|Kd q (x X) (λY=>Kc q one x cl X Y k) k
noncomputable def B0(q:Q W)(c:Cfg)(f:Nat)(as:VS)(rs:List Rv)(Y:Fm)(k:VW Rv->Fm->W):W:=
 dX q (da Y rs) λss=>cz (decide (as++d7 rs).Nodup) (q.c (c.call c.hd f<|gg Y as++ss) λr aM=>lO (dg (eB Y as aM) rs ss<|aM.drop as.length) λY=>
   up k (λr Y=>dX q (c5 r) λaa=>k (.ok r) Y) r Y) q.bad
noncomputable def Ru(q:Q W)(r:VW Rv)(k:D->W):W:=match r with
 |.ok (.fz d)=>k d
 |_=>q.bad
noncomputable def BY(q:Q W)(c:Cfg)(f:Nat)(o:Option Slot)(Y:Fm)(k:VW Rv->Fm->W):W:=match o with
 |some (.KK<|.list M)=>q.c (c.call c.hd f [.fz<|.list M]) λr aa=>Ru q r λd=>q.t (b9 d) λb=>cz b (k (.ok<|.fz d) Y) q.bad
 |_=>q.bad
noncomputable def RG(cl:VS)(k:VW Rv->Fm->W)(o:VW VX)(Y:Fm):W:=match o with
 |.error e=>lO (clr Y cl) λY=>k (.error e) Y
 |.ok X=>k (.ok<|.KK<|.list X) Y
mutual
noncomputable def wp(q:Q W)(c:Cfg):Ex->Fm->(VW Rv->Fm->W)->W
 |.lit d,Y,k=>k (.ok<|.fz d) Y
 |.gl i,Y,k=>dX q c.glob[i]? λd=>k (.ok<|.fz d) Y
 |.var i,Y,k=>Mi q Y[i]? Y i k
 |.pl p,Y,k=>cz (ta Y p) (k (.ok<|.pl p) Y) q.bad
 |.tup es,Y,k=>Cy q c es Y<|up k λrs Y=>dX q (eC rs) λX=>k (.ok<|.fz<|.tuple X) Y
 |.list es,Y,k=>Cy q c es Y<|up k λrs Y=>dX q (eC rs) λX=>k (.ok<|.KK<|.list X) Y
 |.op2 o a b,Y,k=>wp q c a Y<|up k λx Y=>wp q c b Y<|up k λy Y=>dX q (d6 Y x) λd=>dX q (d6 Y y) λe=>q.v (op2 o d e) λr=>LP q r<|k (.ok r) Y
 |.neg a,Y,k=>wp q c a Y<|up k λx Y=>dX q (c5 x) λd=>dX q (DZ d) λe=>k (.ok<|.fz e) Y
 |.not a,Y,k=>wp q c a Y<|up k λx Y=>dX q (d6 Y x) λd=>q.t (tD d) λb=>k (.ok<|.fz<|.bool<|!b) Y
 |.cmp o a b,Y,k=>wp q c a Y<|up k λx Y=>wp q c b Y<|up k λy Y=>dX q (d6 Y x) λd=>dX q (d6 Y y) λe=>q.b (aI o d e) λb=>k (.ok<|.fz<|.bool b) Y
 |.cmp2 o p a b e,Y,k=>wp q c a Y (up k λx Y=>wp q c b Y (up k λy Y=>dX q (c5 x) λd=>dX q (c5 y) λd'=>q.b (aI o d d') λt=>
   q.t t λt=>cz t (wp q c e Y<|up k λz Y=>dX q (c5 z) λRD=>q.b (aI p d' RD) λb=>k (.ok<|.fz<|.bool b) Y)<|k (.ok<|.fz<|.bool false) Y))
 |.bo j es,Y,k=>Qb q c j es Y k
 |.idx a i,Y,k=>wp q c a Y<|up k λx Y=>wp q c i Y<|up k λy Y=>dX q (d6 Y x) λd=>dX q (c5 y) λe=>q.d (cW d e) λr=>k (.ok<|.fz r) Y
 |.slc a lo hi,Y,k=>wp q c a Y (up k λx Y=>wp q c lo Y (up k λy Y=>wp q c hi Y (up k λz Y=>
   dX q (d6 Y x) λd=>dX q (c5 y) λl=>dX q (c5 z) λh=>q.v (yD d l h) λr=>LP q r<|k (.ok r) Y)))
 |.call f args,Y,k=>Cy q c args Y<|up k λrs Y=>B0 q c f [] rs Y k
 |.mcall f as args,Y,k=>Cy q c args Y<|up k λrs Y=>B0 q c f as rs Y k
 |.callp f i,Y,k=>BY q c f Y[i]? Y k
 |.tin i e,Y,k=>wp q c e Y<|up k λr Y=>dX q (c5 r) λx=>dX q (lA Y[i]?) λX=>q.t (fH x) λb=>cz b (q.t (bK x X).isNone λb=>k (.ok<|.fz<|.bool b) Y) q.bad
 |.tget i e,Y,k=>wp q c e Y<|up k λr Y=>dX q (c5 r) λx=>dX q (lA Y[i]?) λX=>q.t (fH x) λb=>cz b (q.d (bK x X) λd=>k (.ok<|.fz d) Y) q.bad
 |.bi b args,Y,k=>cz (c.hd&&b.loops) q.bad<|Cy q c args Y<|up k λrs Y=>dX q (ju Y rs) λX=>q.v (jm b X) λr=>LP q r<|k (.ok r) Y
 |.comp cX t it bG aw,Y,k=>cz c.hd q.bad (Cy q c bG Y (up k λrs Y=>dX q (eC rs) λX=>q.l (b4 it X) λac=>
   q.cp (bB c Y cX t aw ac) (BR q (λd Y k=>dX q (asgT c.pin Y t<|.fz d) λY=>lO Y λY=>LM q c aw Y<|up k λb Y=>cz b (wp q c cX Y<|up k λr Y=>dX q (c5 r) λx=>k (.ok<|some x) Y)<|k (.ok none) Y)
    (λX Y=>bB c Y cX t aw X) (aQ t) ac Y (RG (aQ t) k)) (RG (aQ t) k)))
noncomputable def Cy(q:Q W)(c:Cfg):List Ex->Fm->(VW (List Rv)->Fm->W)->W
 |[],Y,k=>k (.ok []) Y
 |e::es,Y,k=>wp q c e Y<|up k λr Y=>Cy q c es Y<|up k λrs Y=>k (.ok (r::rs)) Y
noncomputable def Qb(q:Q W)(c:Cfg)(j:Bool):List Ex->Fm->(VW Rv->Fm->W)->W
 |[],_,_=>q.bad
 |e::es,Y,k=>wp q c e Y (up k λr Y=>dX q (c5 r) λd=>match es with
   |[]=>k (.ok r) Y
   |_::_=>q.t (tD d) λb=>cz (b==j) (Qb q c j es Y k)<|k (.ok r) Y)
noncomputable def LM(q:Q W)(c:Cfg):List Ex->Fm->(VW Bool->Fm->W)->W
 |[],Y,k=>k (.ok true) Y
 |e::es,Y,k=>wp q c e Y<|up k λr Y=>dX q (d6 Y r) λd=>q.t (tD d) λb=>cz b (LM q c es Y k)<|k (.ok false) Y
end
noncomputable def O7(q:Q W)(o:Option D)(Y:Fm)(p:Pl)(d:D)(k:VW bN->Fm->W):W:=match o with
 |some (.list M)=>q.t (decide<|M.length<Sz) λb=>cz b (lO (qy Y p<|.list<|M++[d]) λY=>k (.ok .next) Y) q.bad
 |_=>q.bad
noncomputable def Qa(q:Q W)(c:Cfg)(e:Str):List (Str×Ex)->Fm->(VW bN->Fm->W)->W
 |[],_,_=>q.bad
 |p::hs,Y,k=>cz (decide<|p.1=e) (wp q {c with hd:=true} p.2 Y λo Y=>Ru q o λd=>k (.ok<|.ret<|.fz d) Y)<|Qa q c e hs Y k
mutual
noncomputable def wpS(q:Q W)(c:Cfg):St->Fm->(VW bN->Fm->W)->W
 |.asg t e,Y,k=>cz (c.hd&&t.isTup) q.bad<|wp q c e Y<|up k λr Y=>dX q (asgT c.pin Y t r) λY=>lO Y λY=>k (.ok .next) Y
 |.setI p i e,Y,k=>wp q c e Y (up k λr Y=>cz (iU Y p).isSome (wp q c i Y (up k λx Y=>dX q (c5 r) λd=>dX q (c5 x) λx=>dX q (iU Y p) λo=>
   q.d (Du o x d) λo'=>lO (qy Y p o') λY=>k (.ok .next) Y)) q.bad)
 |.app p e,Y,k=>cz (I5<|iU Y p) (wp q c e Y<|up k λr Y=>dX q (c5 r) λd=>O7 q (iU Y p) Y p d k) q.bad
 |.exp e,Y,k=>wp q c e Y<|up k λaa Y=>k (.ok .next) Y
 |.iff t a b,Y,k=>wp q c t Y<|up k λx Y=>dX q (d6 Y x) λd=>q.t (tD d) λt=>cz t (jn q c a Y k)<|jn q c b Y k
 |.ret e,Y,k=>wp q c e Y<|up k λr Y=>LP q r<|k (.ok<|.ret r) Y
 |.for_ t it bG body ct,Y,k=>cz c.hd q.bad (Cy q c bG Y (up k λrs Y=>dX q (eC rs) λX=>q.l (b4 it X) λac=>
   q.lp (cm c Y t body ct ac) (Kc q (λd Y k=>dX q (asgT c.pin Y t<|.fz d) λY=>lO Y λY=>jn q c body Y k) (λX Y=>cm c Y t body ct X) ct ac Y k) k))
 |.whl t body ct,Y,k=>cz c.hd q.bad<|q.lp (yb c Y t body ct Wz) q.bad k
 |.raise x,Y,k=>cz c.hd q.bad<|k (.error x) Y
 |.tryx body hs,Y,k=>cz c.hd q.bad (jn q c body Y λo Y=>match o with
  |.ok x=>k (.ok x) Y
  |.error e=>Qa q c e hs Y k)
 |.tab0 i,Y,k=>cz (c.hd||c.pin.contains i) q.bad<|lO (Y.set i<|.tab []) λY=>k (.ok .next) Y
 |.tset i x e,Y,k=>wp q c e Y (up k λr Y=>wp q c x Y (up k λy Y=>dX q (c5 r) λd=>dX q (c5 y) λx=>dX q (lA Y[i]?) λX=>q.t (decide<|fH x=true/\bK x X=none/\X.length<Sz) λb=>cz b
   (lO (Y.set i<|.tab<|X++[(x,d)]) λY=>k (.ok .next) Y) q.bad))
 |.no,_,_=>q.bad
 |.new f as args body,Y,k=>cz c.hd q.bad<|Cy q c args Y<|up k λrs Y=>dX q (eC rs) λX=>q.c (c.call false f<|fP as++X.map .fz) λr aM=>cz (Ny r) (lO (eB Y as aM) λY=>jn q c body Y λo Y=>lO (clr Y<|nx as) λY=>k o Y) q.bad
noncomputable def jn(q:Q W)(c:Cfg):List St->Fm->(VW bN->Fm->W)->W
 |[],Y,k=>k (.ok .next) Y
 |s::ss,Y,k=>wpS q c s Y<|up k<|Qi (λY=>jn q c ss Y k) k
end
noncomputable def SL(q:Q W)(c:Cfg)(t:Ex)(body:List St)(ct:VS)(n:Nat)(Y:Fm)(k:VW bN->Fm->W):W:=
 lO (clr Y ct) λY=>wp q c t Y<|up k λx Y=>dX q (d6 Y x) λd=>q.t (tD d) λb=>cz b (jn q c body Y<|Kd q (λY=>yb c Y t body ct n) (λaa=>q.bad) k)<|k (.ok .next) Y
noncomputable def Mh(q:Q W)(c:Cfg)(t:Tgt)(body:List St)(ct:VS)(ac:VX)(Y:Fm)(k:VW bN->Fm->W):W:=
 Kc q (λd Y k=>dX q (asgT c.pin Y t<|.fz d) λY=>lO Y λY=>jn q c body Y k) (λX Y=>cm c Y t body ct X) ct ac Y k
noncomputable def yp(q:Q W)(c:Cfg)(cX:Ex)(t:Tgt)(aw:List Ex)(ac:VX)(Y:Fm)(k:VW VX->Fm->W):W:=
 BR q (λd Y k=>dX q (asgT c.pin Y t<|.fz d) λY=>lO Y λY=>LM q c aw Y<|up k λb Y=>cz b (wp q c cX Y<|up k λr Y=>dX q (c5 r) λx=>k (.ok<|some x) Y)<|k (.ok none) Y)
    (λX Y=>bB c Y cX t aw X) (aQ t) ac Y k
noncomputable def T7(q:Q W)(P:Pr)(n:Nat)(hd:Bool)(f:Nat)(args:List Slot)(k:Option (VW Rv×List Slot)->W):W:=
 dX q P.fns[f]? λfn=>cz (decide<|args.length=fn.np) (lO (args++replicate (fn.nv-fn.np) .no) λY=>jn q ⟨P.glob,cF P n,fF fn.na fn.rb args,hd⟩ fn.body Y λo Y=>k<|A1 fn.na args<|some (o,Y)) q.bad
end
inductive It where
 |b (b:Bool)|v (r:Rv)|d (d:D)|l (l:VX)
 |lp (o:VW bN×Fm)|cp (o:VW VX×Fm)|c (r:VW Rv×List Slot)
noncomputable abbrev Tape:=List<|Nat×It
noncomputable def It.gb:It->Option Bool|.b x=>some x|_=>none
noncomputable def It.gv:It->Option Rv|.v x=>some x|_=>none
noncomputable def It.gd:It->Option D|.d x=>some x|_=>none
noncomputable def It.gl:It->Option VX|.l x=>some x|_=>none
noncomputable def It.glp:It->Option (VW bN×Fm)|.lp x=>some x|_=>none
noncomputable def It.gcp:It->Option (VW VX×Fm)|.cp x=>some x|_=>none
noncomputable def It.gc:It->Option (VW Rv×List Slot)|.c x=>some x|_=>none
def ask{α:Type}(g:It->Option α)(x:Option α)(dflt:Tape->Prop)(f:α->Tape->Prop):Tape->Prop
 |[]=>dflt []
 |(n+1,i)::tp=>dflt ((n,i)::tp)
 |(0,i)::tp=>match g i with
  |none=>False
  |some y=>x=some y/\f y tp
noncomputable def oV{α:Type}(x:Option α)(f:α->Tape->Prop):Tape->Prop:=match x with
 |none=>λaa=>False
 |some a=>f a
def O5(x:Bool)(f:Bool->Tape->Prop):Tape->Prop
 |[]=>f x []
 |(n+1,i)::tp=>f x ((n,i)::tp)
 |(0,i)::tp=>match i with
  |.b y=>x=y/\f y tp
  |_=>False
noncomputable def qT:Q (Tape->Prop) where
 bad:=λaa=>False
 b x f:=ask It.gb x (oV x f) f
 t x f:=O5 x f
 v x f:=ask It.gv x (oV x f) f
 d x f:=ask It.gd x (oV x f) f
 l x f:=ask It.gl x (oV x f) f
 lp x u f:=ask It.glp x u λo=>f o.1 o.2
 cp x u f:=ask It.gcp x u λo=>f o.1 o.2
 c x f:=ask It.gc x (oV x λo=>f o.1 o.2) λo=>f o.1 o.2
def TT{α:Type}(m:bF α)(k:VW α->Fm->Tape->Prop):Prop:= ∃o Y tp,m=some (o,Y)/\k o Y tp
theorem tq{W:Type}:∀(Y:Fm)(k:Fm->W),lO Y k=k Y:=by intro Y k;induction Y generalizing k with
 |nil=>exact rfl
 |cons s Y ih=>exact ih _
theorem oK{x:Option α}{f:α->Tape->Prop}{tp:Tape}(h:dX qT x f tp):∃a,x=some a/\f a tp:=by cases x with
 |none=>exact h.elim
 |some a=>exact⟨a,rfl,h⟩
theorem Ez{x:Option α}{f:α->Tape->Prop}{tp:Tape}(h:oV x f tp):∃a tp,x=some a/\f a tp:=by cases x with
 |none=>exact h.elim
 |some a=>exact⟨a,tp,rfl,h⟩
theorem B5{g:It->Option α}{x:Option α}{u:Tape->Prop}{f:α->Tape->Prop}{tp:Tape}(h:ask g x u f tp):(∃tp,u tp)\/ ∃a tp,x=some a/\f a tp:=by
 match tp,h with
 |[],h=>exact .inl ⟨_,h⟩
 |(n+1,i)::tp,h=>exact .inl ⟨_,h⟩
 |(0,i)::tp,h=>have h:(match g i with|none=>False|some y=>x=some y/\f y tp):=h;cases hg:g i with
  |none=>rw[hg]at h;exact h.elim
  |some y=>rw[hg]at h;exact .inr ⟨y,tp,h⟩
theorem lj{g:It->Option α}{x:Option α}{f:α->Tape->Prop}{tp:Tape}(h:ask g x (oV x f) f tp):∃a tp,x=some a/\f a tp:=by
 rcases B5 h with⟨tp,h⟩|h
 .exact Ez h
 .exact h
theorem F9{x:Bool}{f:Bool->Tape->Prop}{tp:Tape}(h:qT.t x f tp):∃tp,f x tp:=by
 have h:O5 x f tp:=h
 match tp,h with
 |[],h=>exact⟨_,h⟩
 |(n+1,i)::tp,h=>exact⟨_,h⟩
 |(0,.b y)::tp,h=>obtain⟨rfl,h⟩:=h;exact⟨_,h⟩
 |(0,.v _)::tp,h|(0,.d _)::tp,h|(0,.l _)::tp,h|(0,.lp _)::tp,h|(0,.cp _)::tp,h|(0,.c _)::tp,h=>exact h.elim
theorem OB{b:Bool}{x:Tape->Prop}{tp:Tape}(h:cz b x qT.bad tp):b=true/\x tp:=by cases b with
 |true=>exact⟨rfl,h⟩
 |false=>exact h.elim
def Im{β:Type}(k:VW β->Fm->Tape->Prop)(F:Tape->Prop)(m:bF β):Prop:= ∀tp,F tp->TT m k
section
variable {α β:Type}{k:VW β->Fm->Tape->Prop}{F G:Tape->Prop}{m m':bF β}{a:β}{Y:Fm}{x:Option α}
theorem bh:Im k (k (.ok a) Y) (some (.ok a,Y)):=λtp h=>⟨_,_,tp,rfl,h⟩
theorem AD{e:Str}:Im k (k (.error e) Y) (some (.error e,Y)):=λtp h=>⟨_,_,tp,rfl,h⟩
theorem aU:Im k qT.bad m:=λaa h=>h.elim
theorem aA{H:(VW α->Fm->Tape->Prop)->Tape->Prop}{q:bF α}{f:α->Fm->Tape->Prop}{g:α->Fm->bF β}(h1:∀k,Im k (H k) q)(h2:∀a Y,Im k (f a Y)<|g a Y):Im k (H<|up k f) (@mF α β q ⟨g⟩):=λtp h=>by obtain⟨o,Y,tp,rfl,h⟩:=h1 _ tp h;cases o with
 |error e=>exact⟨_,_,tp,rfl,h⟩
 |ok a=>exact h2 a Y tp h
theorem cc{f:α->Tape->Prop}{g:α->bF β}(H:∀a,Im k (f a)<|g a):Im k (dX qT x f) (mo x g):=by cases x with
 |none=>exact aU
 |some a=>exact H a
theorem wU{w:It->Option α}{f:α->Tape->Prop}{g:α->bF β}(H:∀a,Im k (f a)<|g a):Im k (ask w x (oV x f) f) (mo x g):=λtp h=>by obtain⟨a,tp,h1,h'⟩:=lj h;subst h1;exact H a tp h'
theorem ve{u:α->β}:Im k (dX qT x λa=>k (.ok<|u a) Y) (th Y<|x.map u):=by cases x with
 |none=>exact aU
 |some a=>exact bh
theorem vf{w:It->Option α}{u:α->β}:Im k (ask w x (oV x λa=>k (.ok<|u a) Y) λa=>k (.ok<|u a) Y) (th Y<|x.map u):=λtp h=>by obtain⟨a,tp,h1,h'⟩:=lj h;subst h1;exact bh tp h'
theorem kM{b:Bool}{f:Bool->Tape->Prop}(H:Im k (f b) m):Im k (qT.t b f) m:=λtp h=>aB (F9 h) H
theorem fZ{b:Bool}(H:Im k F m)(H':Im k G m'):Im k (cz b F G) (if b then m else m'):=by cases b with
 |true=>exact H
 |false=>exact H'
theorem QN{b j:Bool}(H:Im k F m)(H':Im k G m'):Im k (cz (b==j) F G) (if b=j then m else m'):=by revert b j;exact fun {b j}=>by cases b<;>cases j<;>first|exact H|exact H'
theorem EI{p:Prop}[Decidable p](H:Im k F m)(H':Im k G m'):Im k (cz (decide p) F G) (if p then m else m'):=by
 by_cases q:p
 .rw[YX q,Y0 q];exact H
 .rw[YY q,Y1 q];exact H'
theorem jA{f:Fm->Tape->Prop}(H:Im k (f Y) m):Im k (lO Y f) m:=λtp h=>H tp<|tq Y f▸h
theorem wV{w:It->Option (VW β×Fm)}(H:Im k F m):Im k (ask w m F λo=>k o.1 o.2) m:=λtp h=>by
 rcases B5 h with⟨tp,h⟩|⟨o,tp,h3,h⟩
 .exact H tp h
 .exact⟨o.1,o.2,tp,h3,h⟩
end
theorem NC{k:VW β->Fm->Tape->Prop}{f:α->Fm->Tape->Prop}{g:α->Fm->bF β}{o:VW α}{Y:Fm}(H:∀a Y,Im k (f a Y)<|g a Y):Im k (up k f o Y) (@mF α β (some (o,Y)) ⟨g⟩):=by cases o with
 |error e=>exact AD
 |ok a=>exact H a Y
theorem JN{k:VW Rv->Fm->Tape->Prop}{Y:Fm}{x:Option Rv}:Im k (qT.v x λr=>LP qT r<|k (.ok r) Y) (DV Y x):=λtp h=>by obtain⟨r,tp,h1,h'⟩:=lj h;subst h1;cases r with
 |pl p=>exact h'.elim
 |fz d=>exact bh tp h'
 |KK d=>exact bh tp h'
theorem JK{k:VW Rv->Fm->Tape->Prop}{Y:Fm}{s:Option Slot}:Im k (Mi qT s Y i k) (CW s Y i):=by
 rcases s with _|_|d|d|_
 .exact aU
 .exact aU
 .exact bh
 .exact jA (Y:=Y.set i<|.fz d) bh
 .exact aU
theorem NF{k:VW Rv->Fm->Tape->Prop}{cl:VS}{F:Tape->Prop}{m:bF VX}(H:Im (RG cl k) F m):Im k F (rY cl m λX Y=>some (.ok<|.KK<|.list X,Y)):=λtp h=>by obtain⟨o,Y,tp,rfl,h⟩:=H tp h;cases o with
 |error e=>exact jA AD tp h
 |ok X=>exact bh tp h
theorem JM{k:VW bN->Fm->Tape->Prop}{Y:Fm}{p:Pl}{d:D}{o:Option D}:Im k (O7 qT o Y p d k) (Lh o Y p d):=by
 rcases o with _|o
 .exact aU
 .cases o with
  |list M=>exact kM<|EI (jA bh) aU
  |_=>exact aU
theorem ND{k:VW VX->Fm->Tape->Prop}(r:Option D)(rs:VX)(Y:Fm):Im k (TL k r rs Y) (RF r rs Y):=by cases r with
 |none=>exact bh
 |some r=>exact bh
theorem vd{k:VW bN->Fm->Tape->Prop}{F:Fm->Tape->Prop}{m:Fm->bF bN}(H:∀Y,Im k (F Y)<|m Y)(r:bN)(Y:Fm):Im k (Qi F k r Y) (PB m r Y):=by cases r with
 |next=>exact H Y
 |ret r=>exact bh
theorem JL{k:VW bN->Fm->Tape->Prop}{Y:Fm}{r:Rv}:Im k (LP qT r<|k (.ok<|.ret r) Y) (IW r Y):=by cases r with
 |pl p=>exact aU
 |fz d=>exact bh
 |KK d=>exact bh
theorem vx{c:Cfg}{t:Tgt}{body:List St}(H:∀Y k,Im k (jn qT c body Y k)<|dD c body Y)(ac:VX)(Y:Fm)(k:VW bN->Fm->Tape->Prop):
  Im k (Mh qT c t body ct ac Y k) (cm c Y t body ct ac):=by
 induction ac generalizing Y k with
 |nil=>exact bh
 |cons d X ih=>exact jA<|aA (H:=λk=>dX qT (asgT c.pin (clr Y ct) t<|.fz d) λY=>lO Y λY=>jn qT c body Y k) (q:=mo (asgT c.pin (clr Y ct) t<|.fz d) λY=>dD c body Y) (λk=>cc λY=>jA<|H Y k)<|vd λY=>wV<|ih Y k
theorem rP{c:Cfg}{cX:Ex}{t:Tgt}{aw:List Ex}(H:∀Y k,Im k (wp qT c cX Y k)<|ev c cX Y)(H':∀Y k,Im k (LM qT c aw Y k)<|df c aw Y)(ac:VX)(Y:Fm)(k:VW VX->Fm->Tape->Prop):
  Im k (yp qT c cX t aw ac Y k) (bB c Y cX t aw ac):=by
 induction ac generalizing Y k with
 |nil=>exact bh
 |cons d X ih=>
  exact jA (aA (H:=λk=>dX qT (asgT c.pin (clr Y<|aQ t) t<|.fz d) λY=>lO Y λY=>LM qT c aw Y<|up k λb Y=>cz b (wp qT c cX Y<|up k λr Y=>dX qT (c5 r) λx=>k (.ok<|some x) Y)<|k (.ok none) Y)
   (q:=mo (asgT c.pin (clr Y<|aQ t) t<|.fz d) λY=>aT (df c aw Y) λb Y=>if b then aT (ev c cX Y) λr Y=>th Y ((c5 r).map some) else some (.ok none,Y))
   (λk=>cc λY=>jA<|aA (H' Y) λb Y=>fZ (aA (H Y) λr Y=>ve) bh)
   λr Y=>aA (H:=λk=>qT.cp (bB c Y cX t aw X) (yp qT c cX t aw X Y k) k) (λk=>wV<|ih Y k)<|ND r)
set_option maxRecDepth 4000
theorem rV{c:Cfg}{as:VS}{rs:List Rv}{Y:Fm}{k:VW Rv->Fm->Tape->Prop}:Im k (B0 qT c f as rs Y k) (nU c f as rs Y):=by exact cc λss=>EI (wU λo=>jA<|NC λr Y=>cc λaa=>bh) aU
theorem AX{r:VW Rv}{f:D->Tape->Prop}{tp:Tape}(h:Ru qT r f tp):∃d,r = .ok (.fz d)/\f d tp:=by
 rcases r with _|_|_|_
 .exact h.elim
 .exact⟨_,rfl,h⟩
 .exact h.elim
 .exact h.elim
theorem BW{c:Cfg}{o:Option Slot}{Y:Fm}{k:VW Rv->Fm->Tape->Prop}:Im k (BY qT c f o Y k) (pL c f o Y):=by
 rcases o with _|_|_|d|_
 .exact aU
 .exact aU
 .exact aU
 .cases d with
  |list M=>
   intro tp h;obtain⟨⟨o1,o2⟩,tp,h1,h⟩:=lj h;obtain⟨d,h2,h⟩:=AX h;subst h2;show TT (match c.call c.hd f [.fz<|.list M]with
    |some (.ok<|.fz d,_)=>if b9 d then some (.ok<|.fz d,Y) else none
    |_=>none) k
   rw[h1];exact kM (fZ bh aU) tp h
  |_=>exact aU
 .exact aU
structure WL(c:Cfg)(es:List Ex):Prop where
 l:∀Y k,Im k (Cy qT c es Y k)<|jF c es Y
 b:∀j Y k,Im k (Qb qT c j es Y k)<|Hn c j es Y
 k:∀Y k,Im k (LM qT c es Y k)<|df c es Y
theorem WL.nil(c:Cfg):WL c []:=⟨λaa ai=>bh,λaa ai br=>aU,λaa ai=>bh⟩
theorem WL.cons{c:Cfg}{e:Ex}{es:List Ex}(h:∀Y k,Im k (wp qT c e Y k)<|ev c e Y)(H:WL c es):WL c (e::es):=
 ⟨λY k=>aA (h Y) λr Y=>aA (H.l Y) λrs Y=>bh,
  λj Y k=>aA (h Y) λr Y=>cc λd=>by
  cases es with
  |nil=>exact bh
  |cons e' es=>exact kM<|QN (H.b j Y k) bh,
  λY k=>aA (h Y) λr Y=>cc λd=>kM<|fZ (H.k Y k) bh⟩
theorem fY(c:Cfg)(e:Ex):∀Y k,Im k (wp qT c e Y k) (ev c e Y):=
 Ex.rec (motive_1:=λe=> ∀Y k,Im k (wp qT c e Y k)<|ev c e Y) (motive_2:=WL c)
  (λd Y k=>bh)
  (λi Y k=>cc λd=>bh)
  (λi Y k=>JK)
  (λp Y k=>fZ bh aU)
  (λes H Y k=>aA (H.l Y) λrs Y=>ve)
  (λes H Y k=>aA (H.l Y) λrs Y=>ve)
  (λo a b ha hb Y k=>aA (ha Y) λx Y=>aA (hb Y) λy Y=>cc λd=>cc λe=>JN)
  (λa ha Y k=>aA (ha Y) λx Y=>cc λd=>ve)
  (λa ha Y k=>aA (ha Y) λx Y=>cc λd=>kM bh)
  (λo a b ha hb Y k=>aA (ha Y) λx Y=>aA (hb Y) λy Y=>cc λd=>cc λe=>vf)
  (λo p a b e ha hb he Y k=>aA (ha Y) λx Y=>aA (hb Y) λy Y=>cc λd=>cc λe=>wU λt=>kM<|fZ (aA (he Y) λz Y=>cc λd=>vf) bh)
  (λj es H Y k=>H.b j Y k)
  (λa i ha hi Y k=>aA (ha Y) λx Y=>aA (hi Y) λy Y=>cc λd=>cc λe=>vf)
  (λa lo hi ha hl hh Y k=>aA (ha Y) λx Y=>aA (hl Y) λy Y=>aA (hh Y) λz Y=>cc λd=>cc λl=>cc λh=>JN)
  (λf args H Y k=>aA (H.l Y) λrs Y=>rV)
  (λb args H Y k=>fZ aU<|aA (H.l Y) λrs Y=>cc λX=>JN)
  (λcX t it bG aw he hs hc Y k=>fZ aU<|aA (hs.l Y) λrs Y=>cc λX=>wU λac=>NF<|wV (m:=bB c Y cX t aw ac)<|rP he hc.k ac Y _)
  (λf as args H Y k=>aA (H.l Y) λrs Y=>rV)
  (λf i Y k=>BW)
  (λi e he Y k=>aA (he Y) λr Y=>cc λx=>cc λX=>kM<|fZ (kM bh) aU)
  (λi e he Y k=>aA (he Y) λr Y=>cc λx=>cc λX=>kM<|fZ vf aU)
  (WL.nil c) (λe es h H=>H.cons h) e
theorem yn(c:Cfg)(es:List Ex):WL c es:=by induction es with
 |nil=>exact WL.nil c
 |cons e es ih=>exact ih.cons<|fY c e
theorem HW{c:Cfg}{e:Str}{Y:Fm}{k:VW bN->Fm->Tape->Prop}(hs:List (Str×Ex)):Im k (Qa qT c e hs Y k) (Ff c e hs Y):=by induction hs with
 |nil=>exact aU
 |cons p hs ih=>refine EI (λtp h=>?_) ih;obtain⟨o,Y,tp,h1,h⟩:=fY _ _ _ _ _ h;obtain⟨d,h2,h⟩:=AX h;rw[h1,h2];exact bh tp h
theorem HV(c:Cfg)(s:St):∀Y k,Im k (wpS qT c s Y k) (sB c s Y):=
 St.rec (motive_1:=λs=> ∀Y k,Im k (wpS qT c s Y k)<|sB c s Y) (motive_2:=λs=> ∀Y k,Im k (jn qT c s Y k)<|dD c s Y)
  (λt e Y k=>fZ aU<|aA (fY c e Y) λr Y=>cc λY=>jA bh)
  (λp i e Y k=>aA (fY c e Y) λr Y=>fZ (aA (fY c i Y) λx Y=>cc λd=>cc λx=>cc λo=>wU λo=>jA bh) aU)
  (λp e Y k=>fZ (aA (fY c e Y) λr Y=>cc λd=>JM) aU)
  (λe Y k=>aA (fY c e Y) λr Y=>bh)
  (λt a b ha hb Y k=>aA (fY c t Y) λx Y=>cc λd=>kM<|fZ (ha Y k)<|hb Y k)
  (λe Y k=>aA (fY c e Y) λr Y=>JL)
  (λt it bG body ct H Y k=>fZ aU<|aA ((yn c bG).l Y) λrs Y=>cc λX=>wU λac=>wV (m:=cm c Y t body ct ac)<|vx H ac Y k)
  (λt body ct H Y k=>fZ aU<|wV (m:=yb c Y t body ct Wz) aU)
  (λf as args body H Y k=>fZ aU<|aA ((yn c args).l Y) λrs Y=>cc λX=>wU λo=>fZ (jA λtp h=>by obtain⟨o,dU,tp,h4,h⟩:=H _ _ _ h;rw[h4];rw[tq]at h;exact⟨_,_,tp,rfl,h⟩) aU)
  (λx Y k=>fZ aU AD)
  (λbody hs H Y k=>fZ aU λtp h=>by obtain⟨o,Y,tp,h1,h⟩:=H _ _ _ h;rw[h1];cases o with
   |error e=>exact HW hs tp h
   |ok x=>exact bh tp h)
  (λi Y k=>fZ aU<|jA bh)
  (λi x e Y k=>aA (fY c e Y) λr Y=>aA (fY c x Y) λz Y=>cc λd=>cc λx=>cc λX=>kM<|EI (jA bh) aU)
  (λY k=>aU)
  (λY k=>bh)
  (λs ss hs H Y k=>aA (hs Y)<|vd λY=>H Y k)
  s
theorem n9(c:Cfg)(ss:List St):∀Y k,Im k (jn qT c ss Y k) (dD c ss Y):=by induction ss with
 |nil=>exact λY k=>bh
 |cons s ss ih=>exact λY k=>aA (HV c s Y)<|vd λY=>ih Y k
theorem pq(a b:Int):eqD (.int a) (.int b)=some (decide<|a=b):=by rw[Oi];congr 1
theorem vI(a b:Str):aI .eq (.str a) (.str b)=some (decide<|a=b):=Mv.e_strD a b
theorem jL(a b:Int):aI .eq (.int a) (.int b)=some (decide<|a=b):=pq a b
theorem cD(a b:Int):aI .eq (.int a) (.int b)=some (a==b):=rfl
theorem mn(a b:D):aI .ne a b=(eqD a b).map (!·):=rfl
theorem uz(a b:Int):aI .lt (.int a) (.int b)=some (decide<|a<b):=rfl
theorem F1(a b:Int):aI .le (.int a) (.int b)=some (decide<|a<=b):=rfl
theorem B2(a b:Int):aI .gt (.int a) (.int b)=some (decide<|b<a):=rfl
theorem K2(a b:Int):aI .ge (.int a) (.int b)=some (decide<|b<=a):=rfl
theorem bD(n:Int):b4 .range [.int n]=if -1000000000<=n/\n<=(Sz:Int) then some (gm 0 n.toNat) else none:=rfl
section
variable {a b:Int}{p:Prop}[Decidable p]{k n:Nat}
theorem tG(h:a<b):aI .lt (.int a) (.int b)=some true:=Y2 some<|Y0 h
theorem jd(h:¬a<b):aI .lt (.int a) (.int b)=some false:=Y2 some<|Y1 h
theorem Ka(h:b<a):aI .gt (.int a) (.int b)=some true:=Y2 some<|Y0 h
theorem N5(h:¬b<a):aI .gt (.int a) (.int b)=some false:=Y2 some<|Y1 h
theorem eqT(h:a=b):aI .eq (.int a) (.int b)=some true:=(jL a b).trans<|Y2 some<|Y0 h
theorem L6(h:¬a=b):aI .eq (.int a) (.int b)=some false:=(jL a b).trans<|Y2 some<|Y1 h
theorem QD(h:¬b=0):op2 .mod (.int a) (.int b)=some (.fz<|.int<|a.fmod b):=YY h
theorem oM{c:Int}(e:b=c)(h:¬c=0):op2 .mod (.int a) (.int b)=some (.fz<|.int<|a.fmod c):=by subst e;exact YY h
theorem Mo{a b:Str}(h:a=b):aI .eq (.str a) (.str b)=some true:=(vI a b).trans<|Y2 some<|Y0 h
theorem Mp{a b:Str}(h:¬a=b):aI .eq (.str a) (.str b)=some false:=(vI a b).trans<|Y2 some<|Y1 h
theorem TH(h:b≠0/\b.natAbs<2 ^ 64):op2 .fdiv (.int a) (.int b)=some (.fz<|.int<|a.fdiv b):=YX h
end
structure F where
 n:Nat
 it:It
 A:Prop
 pf:A
noncomputable abbrev F.b(n:Nat){x:Option Bool}{y:Bool}(h:x=some y):F:=⟨n,.b y,x=some y,h⟩
noncomputable abbrev F.t(n:Nat){x y:Bool}(h:x=y):F:=⟨n,.b y,x=y,h⟩
noncomputable abbrev F.v(n:Nat){x:Option Rv}{y:Rv}(h:x=some y):F:=⟨n,.v y,x=some y,h⟩
noncomputable abbrev F.d(n:Nat){x:Option D}{y:D}(h:x=some y):F:=⟨n,.d y,x=some y,h⟩
noncomputable abbrev F.l(n:Nat){x:Option VX}{y:VX}(h:x=some y):F:=⟨n,.l y,x=some y,h⟩
noncomputable abbrev F.lp(n:Nat){x:bF bN}{y:VW bN×Fm}(h:x=some y):F:=⟨n,.lp y,x=some y,h⟩
noncomputable abbrev F.cp(n:Nat){x:bF VX}{y:VW VX×Fm}(h:x=some y):F:=⟨n,.cp y,x=some y,h⟩
noncomputable abbrev F.c(n:Nat){x:Option (VW Rv×List Slot)}{y:VW Rv×List Slot}(h:x=some y):F:=⟨n,.c y,x=some y,h⟩
noncomputable def lz:List F->Tape
 |[]=>[]
 |f::fs=>(f.n,f.it)::lz fs
def xS(R:Prop):List F->Prop
 |[]=>R
 |f::fs=>f.A/\xS R fs
theorem ll{R:Prop}(h:R):∀fs,xS R fs:=by intro fs;induction fs with
 |nil=>exact h
 |cons f fs ih=>exact⟨f.pf,ih⟩
theorem FW{P:Pr}{hd:Bool}{args:List Slot}:cF P (n+1) hd f args=(match P.fns[f]? with
  |none=>none
  |some fn=>if args.length=fn.np then A1 fn.na args (dD ⟨P.glob,cF P n,fF fn.na fn.rb args,hd⟩ fn.body<|args++replicate (fn.nv-fn.np) .no) else none):=rfl
theorem aG(fs:List F){P:Pr}{hd:Bool}{args:List Slot}{R R':Option (VW Rv×List Slot)}(hR:R'=R)
  (h:xS (R'=R) fs=T7 qT P n hd f args (λr aa=>r=R) (lz fs):=by kernel_rfl):cF P (n+1) hd f args=R:=by
 have h:=Eq.mp h<|ll hR fs;obtain⟨fn,h1,h⟩:=oK h;obtain⟨h2,h⟩:=OB h;rw[tq]at h;obtain⟨o,Y,tp,h3,h⟩:=n9 _ _ _ _ _ h;rw[FW,h1];dsimp only;rw[YX<|YW h2,h3];exact h
theorem eM(fs:List F){c:Cfg}{Y:Fm}{t:Tgt}{body:List St}{ac:VX}{R R':bF bN}(hR:R'=R)
  (h:xS (R'=R) fs=Mh qT c t body ct ac Y (λo Y aa=>some (o,Y)=R) (lz fs):=by kernel_rfl):cm c Y t body ct ac=R:=by
 obtain⟨o,Y,tp,h3,h⟩:=vx (n9 c body) _ _ _ _<|Eq.mp h<|ll hR fs;rw[h3,h]
theorem HZ{c:Cfg}{Y:Fm}{t:Ex}{body:List St}{k:VW bN->Fm->Tape->Prop}:Im k (SL qT c t body ct n Y k) (yb c Y t body ct<|n+1):=
 jA (aA (H:=λk=>wp qT c t (clr Y ct)<|up k λx Y=>dX qT (d6 Y x) λd=>qT.t (tD d) λb=>k (.ok b) Y) (q:=aT (ev c t<|clr Y ct) λr Y=>mo (d6 Y r) λd=>some (.ok<|tD d,Y))
  (f:=λb Y=>cz b (jn qT c body Y<|Kd qT (λY=>yb c Y t body ct n) (λaa=>qT.bad) k)<|k (.ok .next) Y)
  (λk=>aA (fY c t _) λx Y=>cc λd=>kM bh) (λb Y=>by cases b with
   |false=>exact bh
   |true=>exact aA (n9 c body Y)<|vd λY=>wV aU))
theorem PA(fs:List F){c:Cfg}{Y:Fm}{t:Ex}{body:List St}{R R':bF bN}(hR:R'=R)
  (h:xS (R'=R) fs=SL qT c t body ct n Y (λo Y aa=>some (o,Y)=R) (lz fs):=by kernel_rfl):yb c Y t body ct (n+1)=R:=by
 obtain⟨o,Y,tp,h3,h⟩:=HZ _<|Eq.mp h<|ll hR fs;rw[h3,h]
theorem jS(fs:List F){c:Cfg}{Y:Fm}{cX:Ex}{t:Tgt}{aw:List Ex}{ac:VX}{R R':bF VX}(hR:R'=R)
  (h:xS (R'=R) fs=yp qT c cX t aw ac Y (λo Y aa=>some (o,Y)=R) (lz fs):=by kernel_rfl):bB c Y cX t aw ac=R:=by
 obtain⟨o,Y,tp,h3,h⟩:=rP (fY c cX) (yn c aw).k _ _ _ _<|Eq.mp h<|ll hR fs;rw[h3,h]
end Mv
end
variable {c:Mv.Cfg}{b:Bool}{x:PySem.Str}{Y av:Mv.Fm}{rs:List Mv.Rv}{s:Mv.Slot}{ss aM args:List Mv.Slot}{LT:VW Mv.Rv×Mv.Fm}{z xa xb:Mv.Ex}{tp:Mv.Tape}{d:PySem.DefRec}{t:Mv.Tgt}{aw M bG:List Mv.Ex}
section
namespace Mv
open PySem
theorem fI{x:D}{M:VX}(h:eX (x::M)=true):b9 x=true/\eX M=true:=and_eq_true_iff.mp h
theorem nF{M:VX}:eX M=true ↔ ∀x∈M,b9 x=true:=by induction M with
 |nil=>exact⟨λaa ai h=>(Zp h).elim,λaa=>rfl⟩
 |cons x M ih=>exact⟨λh y hy=>(mem_cons.mp hy).elim (λe=>e▸(fI h).1)<|ih.mp (fI h).2 y,λh=>and_eq_true_iff.mpr ⟨h x Zt,ih.mpr<|eA h⟩⟩
theorem gz{IO:D->Prop}(hi:∀i,IO<|.int i)(hs:∀s,IO<|.str s)(ht:∀M:VX,eX M=true->(∀x∈M,IO x)->IO (.tuple M))(d:D):b9 d=true->IO d:=
 rec (motive_1:=λd=>b9 d=true->IO d) (motive_2:=λX=>eX X=true-> ∀x∈X,IO x) (motive_3:=λaa=>True) (motive_4:=λaa=>True)
  (λh=>noConfusion h) (λaa h=>noConfusion h) (λi aa=>hi i) (λs aa=>hs s) (λaa ai h=>noConfusion h) (λM ih h=>ht M h<|ih h) (λaa ai h=>noConfusion h)
  (λaa ai h=>by exact nomatch h) (λx M a b h y hy=>(mem_cons.mp hy).elim (λe=>e▸a (fI h).1)<|b (fI h).2 y) trivial (λaa ai br eH=>trivial) (λaa ai br eH=>trivial) d
theorem Bo(a b:Int):eqv (.int a) (.int b)=(a==b):=by rw[eqv]
theorem Bn(a b:Str):eqv (.str a) (.str b)=(a==b):=by rw[eqv]
theorem Bm(a b:VX):eqv (.tuple a) (.tuple b)=eqvAll a b:=by rw[eqv]
theorem ud(x y:D)(M ys:VX):eqvAll (x::M) (y::ys)=(eqv x y&&eqvAll M ys):=by rw[eqvAll]
theorem oS(a:D)(ha:b9 a=true):∀b,b9 b=true->eqv a b=true->a=b:=by
 refine gz (IO:=λa=> ∀b,b9 b=true->eqv a b=true->a=b) ?_ ?_ ?_ a ha
 .intro i b hb h;cases b with
  |int j=>rw[Bo]at h;exact Y2 _<|beq_iff_eq.mp h
  |str s=>rw[eqv]at h;exact tf h
  |tuple s=>rw[eqv]at h;exact tf h
  |_=>exact tf hb
 .intro i b hb h;cases b with
  |int j=>rw[eqv]at h;cases h
  |str s=>rw[Bn]at h;exact Y2 _<|beq_iff_eq.mp h
  |tuple s=>rw[eqv]at h;cases h
  |_=>exact tf hb
 .intro M hx ih b hb h;cases b with
  |int j=>rw[eqv]at h;exact tf h
  |str s=>rw[eqv]at h;exact tf h
  |tuple ys=>rw[Bm]at h;refine Y2 _ ?_;replace hb:eX ys=true:=hb;clear ha hx;induction M generalizing ys with
   |nil=>cases ys with
    |nil=>rfl
    |cons y ys=>rw[eqvAll]at h;exact tf h
   |cons x M IH=>cases ys with
    |nil=>rw[eqvAll]at h;exact tf h
    |cons y ys=>rw[ud,Z8]at h;exact O (ih x Zt y (fI hb).1 h.1)<|O (IH (eA ih) ys h.2 (fI hb).2) rfl
  |_=>cases hb
theorem lW(a:D)(ha:b9 a=true):eqv a a=true:=by refine gz (IO:=λa=>eqv a a=true) (λi=>by rw[Bo];exact beq_iff_eq.mpr rfl) (λi=>by rw[Bn];exact beq_iff_eq.mpr rfl) (λM hx ih=>?_) a ha;rw[Bm];clear hx ha;induction M with
 |nil=>rw[eqvAll]
 |cons x M IH=>rw[ud,ih x Zt];refine O (IH<|eA ih) ?_;rfl
theorem tK{a b:D}(ha:b9 a=true)(hb:b9 b=true)(h:a≠b):eqv a b=false:=by cases q:eqv a b with
 |false=>rfl
 |true=>exact absurd (oS a ha b hb q) h
theorem nP{d:D}:∀{X:VX},d∈X->d.depth<=depthAll X:=by intro X;induction X with
 |nil=>intro h;exact nomatch h
 |cons x X IH=>
  intro hd;rcases mem_cons.mp hd with rfl|hd
  .exact le_max_left _ _
  .exact Zg (IH hd) (le_max_right _ _)
theorem hO(d:D)(h:b9 d=true):noDict d=true:=by refine gz (IO:=λd=>noDict d=true) (λaa=>rfl) (λaa=>rfl) (λM hx ih=>?_) d h;clear hx;induction M with
 |nil=>rfl
 |cons x M IH=>exact and_eq_true_iff.mpr ⟨ih x Zt,IH<|eA ih⟩
end Mv
end
section
set_option backward.match.sparseCases false
namespace Mv
open PySem
mutual
noncomputable def rj(w:World):D->Int
 |.int i=>hashInt i
 |.str x=>hashStr w x
 |.tuple M=>reduceHash<|Builtin.Tuple.tupleHashOf<|tS w M
 |_=>0
noncomputable def tS(w:World):VX->List Int
 |[]=>[]
 |x::M=>rj w x::tS w M
end
mutual
noncomputable def L7:D->Nat
 |.tuple M=>BH M+1
 |_=>1
noncomputable def BH:VX->Nat
 |[]=>0
 |x::M=>L7 x+BH M
end
section
variable {prog:Program}{w:World}{E:VR}
theorem Ar(d:D)(hk:b9 d=true):∀(v:Value)(as:List Addr)(A:Around)(s:Shared)(Q:Int->Shared->Prop),Reads s.heap v d as->A.units+d.depth<cLine->Q (rj w d) {s with toks:=s.toks+L7 d}->wpAny (model prog w) A (pyHash v) Q E s:=by
 refine gz (IO:=λd=> ∀(v:Value)(as:List Addr)(A:Around)(s:Shared)(Q:Int->Shared->Prop),Reads s.heap v d as->A.units+d.depth<cLine->Q (rj w d) {s with toks:=s.toks+L7 d}->wpAny (model prog w) A (pyHash v) Q E s) ?_ ?_ ?_ d hk
 .intro i v as A s Q x _ h;cases x;exact wpAny_pyHash_int h
 .intro i v as A s Q x _ h;cases x;exact wpAny_pyHash_str h
 .intro M _ ih v as A s Q x hu h;cases x with
  |@tuple a o vs n _ as hg hc hd hw=>
   have hu:A.units+(depthAll M+1)<cLine:=hu;refine W.pyHash_slot (T:="tuple") ⟨_,hg,hc⟩ F.slot_tuple_hash F.entry_tuple_hash (F.args_tuple_hash_1 _) (beq_builtin_none _) (.inr (Ze (Zl _ _) hu)) ?_;show wpAny _ _ (Builtin.Tuple.tupleItemsOf (.ref a) >>= _) _ _ s
   refine YV<|wpAny_tupleItemsOf hg hd ?_;refine YV ?_;refine O forIn_toList.symm ?_;have lp:∀(M:VX),(∀x∈M, ∀(v:Value)(as:List Addr)(A:Around)(s:Shared)(Q:Int->Shared->Prop),Reads s.heap v x as->A.units+x.depth<cLine->Q (rj w x) {s with toks:=s.toks+L7 x}->wpAny (model prog w) A (pyHash v) Q (λe s'=>E e s') s)-> ∀(vs:VU)(as:List Addr)(A:Around)(s:Shared)(b:Array Int)(Q:Array Int->Shared->Prop),ReadsAll s.heap vs M as->A.units+depthAll M<cLine->
     (∀b',b'.toList=b.toList++tS w M->Q b' {s with toks:=s.toks+BH M})->
     wpAny (model prog w) A (forIn vs b λx r=>do let h <- pyHash x;pure PUnit.unit;pure (ForInStep.yield<|r.push h)) Q E s:=by
    intro M;induction M with
    |nil=>intro _ vs as A s b Q x _ h;cases x;exact YR<|h b (ZO _).symm
    |cons k M IH=>intro ih vs as A s b Q x hu h;cases x with
     |cons x1 x2=>
      rw[forIn_cons];refine YV<|YV<|ih k Zt _ _ A s _ x1 (Ze (add_le_add_left (le_max_left _ _) _) hu) ?_;refine YV<|YR<|YR ?_;refine IH (eA ih) _ _ A _ _ Q x2 (Ze (add_le_add_left (le_max_right _ _) _) hu) λb' hb=>?_;have e:({s with toks:=s.toks+L7 k+BH M}:Shared)={s with toks:=s.toks+BH (k::M)}:=by rw[Nat.add_assoc];rfl
      exact e▸h b' (by refine O hb ?_;rw[Array.toList_push,ZP];rfl)
   refine lp M ih _ _ A.in1 s #[] _ hw (by rw[Around.in1_units];exact Ze (Zj (by rw[Nat.add_assoc,add_comm 1])) hu) λb hb=>?_;show wpAny _ _ (retInt<|Builtin.Tuple.tupleHashOf b.toList) _ _ _
   exact O hb<|YV<|wpAny_mkInt<|YR ⟨_,_,rfl,h⟩
theorem wQ{d0:Addr}{es ep}(ho:h.get? d0=some o)(hd:o.data = .dict es ep)(hs:Heap.SameBut d0 h h')(d:D)(hk:b9 d=true):∀(v:Value)(as:List Addr),Reads h v d as->Reads h' v d as:=by
 refine gz (IO:=λd=> ∀(v:Value)(as:List Addr),Reads h v d as->Reads h' v d as) ?_ ?_ ?_ d hk
 .intro i v as r;cases r;exact .int _ _
 .intro i v as r;cases r;exact .str _ _
 .intro M _ ih v as r;cases r with
  |@tuple a o' vs n _ as hg hc hq hw=>
   have lp:∀(M:VX),(∀x∈M, ∀(v:Value)(as:List Addr),Reads h v x as->Reads h' v x as)-> ∀(vs:VU)(as:List Addr),ReadsAll h vs M as->ReadsAll h' vs M as:=by intro M;induction M with
    |nil=>intro _ vs as r;cases r;exact .nil
    |cons x M IH=>intro ih vs as r;cases r with|cons r1 r2=>exact .cons (ih x Zt _ _ r1)<|IH (eA ih) _ _ r2
   refine .tuple (n:=n) ((hs.2 a λe=>?_).trans hg) hc hq<|lp M ih _ _ hw;subst e;have ho:=hg▸ho;obtain rfl:=aE ho;have hd:=hq▸hd;exact nomatch hd
theorem wP(d:D)(hk:b9 d=true):∀(v:Value)(as:List Addr)(n:Nat)(s:Shared)(Q:Bool->Shared->Prop),Reads s.heap v d as->d.depth<=n->Q true s->wpAny (model prog w) A (eqIsQuiet n v) Q E s:=by
 refine gz (IO:=λd=> ∀(v:Value)(as:List Addr)(n:Nat)(s:Shared)(Q:Bool->Shared->Prop),Reads s.heap v d as->d.depth<=n->Q true s->wpAny (model prog w) A (eqIsQuiet n v) Q E s) ?_ ?_ ?_ d hk
 .intro i v as n s Q x _ h;cases x;exact O (eqIsQuiet_byValue _ rfl)<|YR h
 .intro i v as n s Q x _ h;cases x;exact O (eqIsQuiet_byValue _ rfl)<|YR h
 .intro M Vz ih v as n s Q x hu h;cases n with
  |zero=>exact(Zb _ hu).elim
  |succ n=>cases x with
   |@tuple a o vs m _ as hg hc hd hw=>
    unfold eqIsQuiet;refine YV<|wpAny_specialOf (⟨_,hg,hc⟩) F.slot_tuple_eq.lookup ?_;refine YV<|wpAny_isInstance (⟨_,hg,hc⟩) isSubtype_tuple_tuple ?_;simp only[Bool.not_true,false_eq_true,if_false];refine YV<|wpAny_seqItems hg hd ?_;refine YV ?_;refine O forIn_toList.symm ?_;refine wpAny_forIn_list _ (λrest r s'=>r.1=none/\s'=s/\ ∃X bs,(∀d∈X,d∈M)/\ReadsAll s.heap rest X bs) _ ?_ ?_ _ _ ⟨rfl,rfl,M,_,λaa h=>h,hw⟩
    .rintro v rest r s' ⟨hr,rfl,X,bs,h1,h2⟩;cases h2 with
     |@cons _ _ d X as1 as2 r1 r2=>refine YV<|ih d (h1 d Zt) _ _ n _ _ r1 (Zg (nP<|h1 d Zt)<|Zi hu) ?_;simp only[Bool.not_true,false_eq_true,if_false];exact YR ⟨rfl,rfl,X,as2,(eA h1),r2⟩
    .rintro ⟨r1,r2⟩ s' ⟨hr,rfl,_⟩;simp only at hr;subst hr;exact YR h
end
structure Cu(h:Heap)(d:D)(a:Addr):Prop where
 k:b9 d=true
 l:d.canLay0=true
 n:d.depth<=8
 r:∃as,Reads h (.ref a) d as
open Classical in
noncomputable def f9(prog:Program)(w:World):HeapKind prog w D where
 is:=Cu
 hash:=rj w
 draws:=L7
 room A:=A.units+8<cLine
 inj:=λx y=>let ⟨_,r⟩:=x.r;let ⟨_,r'⟩:=y.r;(Reads.unique r _ _ r').1
 keeps:=λx ho hd hs=>let ⟨_,r⟩:=x.r;⟨x.k,x.l,x.n,_,wQ ho hd hs _ x.k _ _ r⟩
 pyHash:=fun {A E s k a Q} hu x h=>let ⟨_,r⟩:=x.r;Ar _ x.k _ _ _ _ _ r (Ze (add_le_add_left x.n _) hu) h
 eqBool:=fun {A E s x y a b Q} hu p q h=>let ⟨_,r⟩:=p.r;let ⟨_,r'⟩:=q.r;SeqAt.eqBoolOverData prog w A E s _ _ x y _ _ Q r r' p.l q.l (Ze (add_le_add_left (Zg (min_le_left _ _) p.n) _) hu) (by
  have e:eqv x y=decide (x=y):=by
   by_cases q':x=y
   .rw[Y0 q',q'];exact lW y q.k
   .rw[Y1 q'];exact tK p.k q.k q'
  rw[e];exact h)
 quiet:=λx h=>let ⟨_,r⟩:=x.r;wP _ x.k _ _ _ _ _ r x.n h
end Mv
namespace Mv
open PySem PyProof.Rows
class Hp where
 w:World
 B:Heap
 mg:Str->Option Value
 mb:Str->Option Value
variable [Hp]
noncomputable abbrev prog:Program:=Hq.p
noncomputable abbrev w:World:=Hp.w
noncomputable abbrev B:Heap:=Hp.B
noncomputable abbrev mg:Str->Option Value:=Hp.mg
noncomputable abbrev mb:Str->Option Value:=Hp.mb
def i7(h:Heap)(a:Addr)(kvs:List (Str×Value)):Prop:=(a==sysModules)=false/\h.DictOf (strKind prog w) a kvs
theorem i7.at'{kvs:List (Str×Value)}(k:∀o,h.get? a=some o->h'.get? a=some o)(x:i7 h a kvs):i7 h' a kvs:=
 ⟨x.1,let ⟨o,es,ep,ho,r⟩:=x.2;⟨o,es,ep,k o ho,r⟩⟩
theorem i7.live{kvs:List (Str×Value)}(x:i7 h a kvs):∃o,h.get? a=some o:=let ⟨o,_,_,ho,_⟩:=x.2;⟨o,ho⟩
mutual
inductive bE(h:Heap)(Z:VQ):Value->D->Prop
 |none:bE h Z .none .none
 |bool (b:Bool):bE h Z (.bool b) (.bool b)
 |int (i:Int) (t:Tok):bE h Z (.int i t) (.int i)
 |str (x:Str) (t:Tok):PyData.strOk x=true->x.cps.size<=Sz->bE h Z (.str x t) (.str x)
 |list {a:Addr} {vs:VU} {n:Nat} {X:VX}:Z a->IsL h a vs.toArray n->vs.length<=Sz->aq h Z vs X->bE h Z (.ref a) (.list X)
 |tuple {a:Addr} {vs:VU} {n:Nat} {X:VX}:Z a->IsT h a vs.toArray n->vs.length<=Sz->aq h Z vs X->bE h Z (.ref a) (.tuple X)
 |dict {a:Addr} {kvs:List (Str×Value)} {X:VY}:Z a->i7 h a kvs->kvs.length<=Sz->aS h Z kvs X->bE h Z (.ref a) (.dict X)
inductive aq(h:Heap)(Z:VQ):VU->VX->Prop
 |nil:aq h Z [] []
 |cons {v:Value} {vs:VU} {d:D} {X:VX}:bE h Z v d->aq h Z vs X->aq h Z (v::vs) (d::X)
inductive aS(h:Heap)(Z:VQ):List (Str×Value)->VY->Prop
 |nil:aS h Z [] []
 |cons {k:Str} {v:Value} {kvs:List (Str×Value)} {d:D} {X:VY}:PyData.strOk k=true->k.cps.size<=Sz->bE h Z v d->aS h Z kvs X->aS h Z ((k,v)::kvs) ((.str k,d)::X)
end
section
variable {h h':Heap}{Z Z':VQ}
theorem kX{P1:Value->D->Prop}{P2:VU->VX->Prop}{P3:List (Str×Value)->VY->Prop}(h0:P1 .none .none)(hb:∀b,P1 (.bool b)<|.bool b)(hi:∀i t,P1 (.int i t)<|.int i)
  (hs:∀(x:Str) t,PyData.strOk x=true->x.cps.size<=Sz->P1 (.str x t) (.str x)) (hl:∀{a:Addr}{vs:VU}{n:Nat}{X:VX},Z a->IsL h a vs.toArray n->vs.length<=Sz->P2 vs X->P1 (.ref a) (.list X))
  (ht:∀{a:Addr}{vs:VU}{n:Nat}{X:VX},Z a->IsT h a vs.toArray n->vs.length<=Sz->P2 vs X->P1 (.ref a) (.tuple X))
  (hd:∀{a:Addr}{kvs:List (Str×Value)}{X:VY},Z a->i7 h a kvs->kvs.length<=Sz->P3 kvs X->P1 (.ref a) (.dict X)) (n2:P2 [] []) (c2:∀{v:Value}{vs:VU}{d:D}{X:VX},P1 v d->P2 vs X->P2 (v::vs) (d::X))
  (n3:P3 [] []) (c3:∀{k:Str}{v:Value}{kvs:List (Str×Value)}{d:D}{X:VY},PyData.strOk k=true->k.cps.size<=Sz->P1 v d->P3 kvs X->P3 ((k,v)::kvs) ((.str k,d)::X)):
  (∀{v:Value}{d:D},bE h Z v d->P1 v d)/\(∀{vs:VU}{X:VX},aq h Z vs X->P2 vs X)/\ ∀{vs:List (Str×Value)}{X:VY},aS h Z vs X->P3 vs X:=
 have RU:∀{v:Value}{vs:VU}{d:D}{X:VX},bE h Z v d->aq h Z vs X->P1 v d->P2 vs X->P2 (v::vs) (d::X):=λaa ai a b=>c2 a b;have cC:∀{a:Addr}{vs:VU}{n:Nat}{X:VX},Z a->IsL h a vs.toArray n->vs.length<=Sz->aq h Z vs X->P2 vs X->P1 (.ref a) (.list X):=λz g l aa e=>hl z g l e;have QR:∀{a:Addr}{vs:VU}{n:Nat}{X:VX},Z a->IsT h a vs.toArray n->vs.length<=Sz->aq h Z vs X->P2 vs X->P1 (.ref a) (.tuple X):=λz g l aa e=>ht z g l e;have cQ:∀{a:Addr}{kvs:List (Str×Value)}{X:VY},Z a->i7 h a kvs->kvs.length<=Sz->aS h Z kvs X->P3 kvs X->P1 (.ref a) (.dict X):=λz g l aa e=>hd z g l e;have RT:∀{k:Str}{v:Value}{kvs:List (Str×Value)}{d:D}{X:VY},PyData.strOk k=true->k.cps.size<=Sz->bE h Z v d->aS h Z kvs X->P1 v d->P3 kvs X->P3 ((k,v)::kvs) ((.str k,d)::X):=λo l aa ai a b=>c3 o l a b
 ⟨λr=>bE.rec (motive_1:=λv d aa=>P1 v d) (motive_2:=λvs X aa=>P2 vs X) (motive_3:=λvs X aa=>P3 vs X) h0 hb hi hs cC QR cQ n2 RU n3 RT r,
  λr=>aq.rec (motive_1:=λv d aa=>P1 v d) (motive_2:=λvs X aa=>P2 vs X) (motive_3:=λvs X aa=>P3 vs X) h0 hb hi hs cC QR cQ n2 RU n3 RT r,
  λr=>aS.rec (motive_1:=λv d aa=>P1 v d) (motive_2:=λvs X aa=>P2 vs X) (motive_3:=λvs X aa=>P3 vs X) h0 hb hi hs cC QR cQ n2 RU n3 RT r⟩
theorem jW(hk:∀a o,Z a->h.get? a=some o->h'.get? a=some o)(hz:∀a,Z a->Z' a):(∀{v:Value}{d:D},bE h Z v d->bE h' Z' v d)/\(∀{vs:VU}{X:VX},aq h Z vs X->aq h' Z' vs X)/\ ∀{vs:List (Str×Value)}{X:VY},aS h Z vs X->aS h' Z' vs X:=
 kX .none .bool .int .str (λz g l r=>.list (hz _ z) (hk _ _ z g) l r) (λz g l r=>.tuple (hz _ z) (hk _ _ z g) l r) (λz g l r=>.dict (hz _ z) (g.at' λo=>hk _ o z) l r) .nil .cons .nil .cons
theorem bE.mono(hk:∀a o,Z a->h.get? a=some o->h'.get? a=some o)(hz:∀a,Z a->Z' a){v:Value}{d:D}(r:bE h Z v d):bE h' Z' v d:=(jW hk hz).1 r
theorem aq.mono(hk:∀a o,Z a->h.get? a=some o->h'.get? a=some o)(hz:∀a,Z a->Z' a){vs:VU}{X:VX}(r:aq h Z vs X):aq h' Z' vs X:=(jW hk hz).2.1 r
theorem aS.mono(hk:∀a o,Z a->h.get? a=some o->h'.get? a=some o)(hz:∀a,Z a->Z' a){vs:List (Str×Value)}{X:VY}(r:aS h Z vs X):aS h' Z' vs X:=(jW hk hz).2.2 r
theorem aq.ind{P:VU->VX->Prop}(n:P [] [])(c:∀{v:Value}{vs:VU}{d:D}{X:VX},bE h Z v d->aq h Z vs X->P vs X->P (v::vs) (d::X)):∀{vs:VU}{X:VX},aq h Z vs X->P vs X:=by intro vs x1 R;induction vs generalizing x1 with
 |nil=>cases R;exact n
 |cons v vs ih=>cases R with|cons a r=>exact c a r<|ih r
theorem aS.ind{P:List (Str×Value)->VY->Prop}(n:P [] [])(c:∀{k:Str}{v:Value}{vs:List (Str×Value)}{d:D}{X:VY},PyData.strOk k=true->k.cps.size<=Sz->bE h Z v d->aS h Z vs X->P vs X->P ((k,v)::vs) ((.str k,d)::X)):∀{vs:List (Str×Value)}{X:VY},aS h Z vs X->P vs X:=by intro vs x1 R;induction vs generalizing x1 with
 |nil=>cases R;exact n
 |cons _ vs ih=>cases R with|cons o l a r=>exact c o l a r<|ih r
theorem aS.length{vs:List (Str×Value)}{X:VY}(r:aS h Z vs X):vs.length=X.length:=aS.ind (P:=λvs X=>vs.length=X.length) rfl (λaa ai br eH e=>Y2 (· + 1) e) r
theorem aS.get{vs:List (Str×Value)}{X:VY}{k:Str}(r:aS h Z vs X):(aR X k=none/\valueAt vs k=none)\/ ∃v d,aR X k=some d/\valueAt vs k=some v/\bE h Z v d:=by
 refine aS.ind (P:=λvs X=>(aR X k=none/\valueAt vs k=none)\/ ∃v d,aR X k=some d/\valueAt vs k=some v/\bE h Z v d) (.inl ⟨rfl,rfl⟩) ?_ r;intro k' v kvs d X _ _ a _ ih;by_cases q:k'=k
 .exact .inr ⟨v,d,by show(if k'=k then some d else aR X k)=some d;exact O (YX q) rfl,by unfold valueAt;refine O (find?_cons)<|O (Y0 q) ?_;rfl,a⟩
 .have e:aR ((.str k',d)::X) k=aR X k:=by show(if k'=k then some d else aR X k)=_;exact O (YY q) rfl
  have e':valueAt ((k',v)::kvs) k=valueAt kvs k:=by unfold valueAt;exact O (find?_cons)<|O (Y1 q) rfl
  exact O e<|O e' ih
theorem aS.setm{k:Str}{v:Value}{d:D}(rv:bE h Z v d){vs:List (Str×Value)}{X:VY}(r:aS h Z vs X):aS h Z (vs.map λkv=>if kv.1=k then(kv.1,v) else kv) (mf X k d):=by
 refine aS.ind (P:=λvs X=>aS h Z (vs.map λkv=>if kv.1=k then(kv.1,v) else kv)<|mf X k d) .nil ?_ r;intro k' v' kvs d' X o l a _ ih;refine O Zz ?_;show aS h Z _ ((.str k',if k'=k then d else d')::mf X k d)
 by_cases q:k'=k
 .exact O (YX q) (O (YX q)<|.cons o l rv ih)
 .exact O (YY q) (O (YY q)<|.cons o l a ih)
theorem aS.has{vs:List (Str×Value)}{X:VY}{k:Str}(r:aS h Z vs X):(vs.any λkv=>decide<|kv.1=k)=(aR X k).isSome:=by
 refine aS.ind (P:=λvs X=>(vs.any λkv=>decide<|kv.1=k)=(aR X k).isSome) rfl ?_ r;intro k' v kvs d X _ _ a _ ih;refine O any_cons ?_;show _=(if k'=k then some d else aR X k).isSome
 by_cases q:k'=k
 .refine O (YX q) (O (Y0 q) ?_);rfl
 .refine O (YY q) ?_;refine O (Y1 q) ?_;rw[Bool.false_or];exact ih
theorem aS.app{k:Str}{v:Value}{d:D}(o:PyData.strOk k=true)(l:k.cps.size<=Sz)(rv:bE h Z v d){vs:List (Str×Value)}{X:VY}(r:aS h Z vs X):aS h Z (vs++[(k,v)]) (X++[(.str k,d)]):=
 aS.ind (P:=λvs X=>aS h Z (vs++[(k,v)])<|X++[(str k,d)]) (.cons o l rv .nil) (λo' l' a aa e=>.cons o' l' a e) r
theorem aS.set{k:Str}{v:Value}{d:D}{vs:List (Str×Value)}{X:VY}(r:aS h Z vs X)(o:PyData.strOk k=true)(l:k.cps.size<=Sz)(rv:bE h Z v d):aS h Z (stored vs k v) (dO X k d):=by
 unfold stored dO;refine O r.has ?_;split
 .exact r.setm rv
 .exact r.app o l rv
theorem xE(k:Str)(d:D):∀X:VY,(mf X k d).length=X.length:=by intro r;induction r with
 |nil=>exact rfl
 |cons p0 r ih=>obtain⟨x,y⟩:=p0;cases x<;>exact Y2 (· + 1) ih
theorem xu(k:Str)(d:D)(X:VY):(dO X k d).length<=X.length+1:=by
 unfold dO;split
 .rw[xE];exact(L0 [X.length] .x (.p 1 .x) rfl)
 .simp
theorem lJ:(∀{v:Value}{d:D},bE h Z v d->noDict d=true-> ∃as,Reads h v d as)/\(∀{vs:VU}{X:VX},aq h Z vs X->noDicts X=true-> ∃as,ReadsAll h vs X as)/\ ∀{vs:List (Str×Value)}{X:VY},aS h Z vs X->True:=by
 refine kX (λaa=>⟨_,.none⟩) (λb aa=>⟨_,.bool b⟩) (λi t aa=>⟨_,.int i t⟩) (λx t aa ai br=>⟨_,.str x t⟩) (λaa g ai r e=>?_) (λaa g ai r e=>?_) (λaa ai br eH e=>nomatch e) (λaa=>⟨_,.nil⟩) (λa r e=>?_) trivial λaa ai br eH=>trivial
 .obtain⟨_,q⟩:=r e;exact⟨_,.list g rfl rfl q⟩
 .obtain⟨_,q⟩:=r e;exact⟨_,.tuple g rfl rfl q⟩
 .have Q:=and_eq_true_iff.mp e;obtain⟨_,p⟩:=a Q.1;exact aB (r Q.2) λaa q=>(⟨_,.cons p q⟩)
theorem bE.reads{v:Value}{d:D}(r:bE h Z v d)(e:noDict d=true):∃as,Reads h v d as:=lJ.1 r e
theorem aq.reads{vs:VU}{X:VX}(r:aq h Z vs X)(e:noDicts X=true):∃as,ReadsAll h vs X as:=lJ.2.1 r e
theorem ku:(∀{v:Value}{d:D},bE h Z v d->noDict d=true->d.canLay0=true)/\(∀{vs:VU}{X:VX},aq h Z vs X->noDicts X=true->canLayAll0 X=true)/\ ∀{vs:List (Str×Value)}{X:VY},aS h Z vs X->True:=by refine kX (λaa=>rfl) (λb aa=>rfl) (λi t aa=>rfl) (λx t o aa ai=>o) (λaa g ai r e=>r e) (λaa g ai r e=>r e) (λaa ai br eH e=>nomatch e) (λaa=>rfl) (λa r e=>?_) trivial λaa ai br eH=>trivial;exact and_eq_true_iff.mpr ⟨a (and_eq_true_iff.mp e).1,r (and_eq_true_iff.mp e).2⟩
theorem bE.canLay{v:Value}{d:D}(r:bE h Z v d)(e:noDict d=true):d.canLay0=true:=ku.1 r e
theorem aq.canLay{vs:VU}{X:VX}(r:aq h Z vs X)(e:noDicts X=true):canLayAll0 X=true:=ku.2.1 r e
theorem aq.length{vs:VU}{X:VX}(r:aq h Z vs X):vs.length=X.length:=aq.ind (P:=λvs X=>vs.length=X.length) rfl (λaa ai e=>Y2 (· + 1) e) r
theorem aq.append{vs ws:VU}{X es:VX}(r:aq h Z vs X)(k:aq h Z ws es):aq h Z (vs++ws) (X++es):=aq.ind (P:=λvs X=>aq h Z (vs++ws)<|X++es) k (λa aa e=>.cons a e) r
theorem aq.drop{vs:VU}{X:VX}(n:Nat)(r:aq h Z vs X):aq h Z (vs.drop n) (X.drop n):=
 aq.ind (P:=λvs X=> ∀n,aq h Z (vs.drop n)<|X.drop n) (λn=>by cases n<;>exact .nil) (λa r e n=>by cases n with|zero=>exact .cons a r|succ n=>exact e n) r n
theorem aq.get{vs:VU}{X:VX}{k:Nat}{d:D}(r:aq h Z vs X)(q:X[k]?=some d):∃v,vs[k]?=some v/\bE h Z v d:=
 aq.ind (P:=λvs X=> ∀(k:Nat)(d:D),X[k]?=some d-> ∃v,vs[k]?=some v/\bE h Z v d) (λaa ai e=>am e) (λa r ih k d e=>by cases k with
  |zero=>obtain rfl:=aE e;exact⟨_,rfl,a⟩
  |succ k=>exact ih k d e) r k d q
theorem aq.getV{vs:VU}{X:VX}{k:Nat}{v:Value}(r:aq h Z vs X)(q:vs[k]?=some v):∃d,X[k]?=some d/\bE h Z v d:=
 aq.ind (P:=λvs X=> ∀(k:Nat)(v:Value),vs[k]?=some v-> ∃d,X[k]?=some d/\bE h Z v d) (λaa ai e=>am e) (λa r ih k d e=>by cases k with
  |zero=>obtain rfl:=aE e;exact⟨_,rfl,a⟩
  |succ k=>exact ih k d e) r k v q
theorem aq.rep{vs:VU}{X:VX}(r:aq h Z vs X):∀n:Nat,aq h Z (replicate n vs).flatten (replicate n X).flatten:=by intro n;induction n with
 |zero=>exact .nil
 |succ n ih=>simpa [List.replicate_succ] using aq.append r ih
end
inductive cT(h:Heap)(Z:VQ)(a:Addr):D->Prop
 |list {vs:VU} {n:Nat} {X:VX}:IsL h a vs.toArray n->vs.length<=Sz->aq h Z vs X->cT h Z a (.list X)
 |dict {kvs:List (Str×Value)} {X:VY}:i7 h a kvs->kvs.length<=Sz->aS h Z kvs X->cT h Z a (.dict X)
theorem cT.mono{d:D}(hk:∀a o,Z a->h.get? a=some o->h'.get? a=some o)(hz:∀a,Z a->Z' a)(ha:∀o,h.get? a=some o->h'.get? a=some o):cT h Z a d->cT h' Z' a d
 |.list g l r=>.list (ha _ g) l<|r.mono hk hz
 |.dict g l r=>.dict (g.at' ha) l<|r.mono hk hz
theorem cT.live{d:D}:cT h Z a d-> ∃o,h.get? a=some o
 |.list g _ _=>⟨_,g⟩
 |.dict g _ _=>g.live
theorem cT.rep{d:D}(x:cT h Z a d)(hz:∀a,Z a->Z' a)(ha:Z' a):bE h Z' (.ref a) d:=by cases x with
 |list g l r=>exact .list ha g l<|r.mono (λaa ai br e=>e) hz
 |dict g l r=>exact .dict ha g l<|r.mono (λaa ai br e=>e) hz
def KT(h:Heap)(Z:VQ):List (D×Addr×Value)->VY->Prop
 |[],[]=>True
 |x::M,p::X=>(p.1=x.1/\fH x.1=true/\bE h Z (.ref x.2.1) x.1/\bE h Z x.2.2 p.2)/\KT h Z M X
 |_,_=>False
theorem gA{k:D}(h:fH k=true):b9 k=true/\k.depth<=8:=by cases k with
 |tuple M=>exact⟨(and_eq_true_iff.mp h).1,YW (and_eq_true_iff.mp h).2⟩
 |_=>exact tf h
theorem bE.isKey{k:D}(o:fH k=true)(r:bE h Z (.ref a) k):Cu h k a:=
 ⟨(gA o).1,r.canLay<|hO _ (gA o).1,(gA o).2,r.reads<|hO _ (gA o).1⟩
section
variable {h h':Heap}{Z Z':VQ}
theorem KT.mono(hk:∀a o,Z a->h.get? a=some o->h'.get? a=some o)(hz:∀a,Z a->Z' a):∀{M:List (D×Addr×Value)}{X:VY},KT h Z M X->KT h' Z' M X:=by intro M;induction M with
 |nil=>intro X r;cases X with|nil=>trivial|cons=>exact r.elim
 |cons x M ih=>intro X r;cases X with
  |nil=>exact r.elim
  |cons p X=>exact⟨⟨r.1.1,r.1.2.1,r.1.2.2.1.mono hk hz,r.1.2.2.2.mono hk hz⟩,ih r.2⟩
theorem KT.key:∀{M:List (D×Addr×Value)}{X:VY},KT h Z M X-> ∀x∈M,Cu h x.1 x.2.1:=by intro M;induction M with
 |nil=>exact λaa ai m=>nomatch m
 |cons x M ih=>intro X r y m;cases X with
  |nil=>exact r.elim
  |cons p X=>exact(mem_cons.mp m).elim (λe=>e▸r.1.2.2.1.isKey r.1.2.1)<|ih r.2 y
theorem KT.app{k:D}{v:Value}{d:D}(o:fH k=true)(rk:bE h Z (.ref a) k)(rv:bE h Z v d):∀{M:List (D×Addr×Value)}{X:VY},KT h Z M X->KT h Z (M++[(k,a,v)]) (X++[(k,d)]):=by intro M;induction M with
 |nil=>intro X r;cases X with|nil=>exact⟨⟨rfl,o,rk,rv⟩,trivial⟩|cons=>exact r.elim
 |cons x M ih=>intro X r;cases X with
  |nil=>exact r.elim
  |cons p X=>exact⟨r.1,ih r.2⟩
theorem KT.len:∀{M:List (D×Addr×Value)}{X:VY},KT h Z M X->M.length=X.length:=by intro M;induction M with
 |nil=>intro X r;cases X with|nil=>rfl|cons=>exact r.elim
 |cons x M ih=>intro X r;cases X with
  |nil=>exact r.elim
  |cons p X=>exact Y2 (· + 1)<|ih r.2
open Classical in
inductive Ct(h:Heap)(Z:VQ)(k:D)(M:List (D×Addr×Value))(X:VY):Prop
 |no:bK k X=none->atKey M k=none->Ct h Z k M X
 |yes (p:Addr×Value) (d:D):bK k X=some d->atKey M k=some p->bE h Z p.2 d->Ct h Z k M X
open Classical in
theorem KT.get{k:D}(o:fH k=true):∀{M:List (D×Addr×Value)}{X:VY},KT h Z M X->Ct h Z k M X:=by intro M;induction M with
 |nil=>intro X r;cases X with|nil=>exact .no rfl rfl|cons=>exact r.elim
 |cons x M ih=>intro X r;cases X with
  |nil=>exact r.elim
  |cons p X=>
   have e:bK k (p::X)=if eqv p.1 k=true then some p.2 else bK k X:=rfl
   have e':∀b,decide (x.1=k)=b->atKey (x::M) k=cz b (some x.2) (atKey M k):=λb q=>by unfold atKey;refine O find?_cons ?_;rw[q];cases b<;>rfl
   by_cases q:x.1=k
   .refine .yes x.2 p.2 ?_ (e' true<|Y0 q) r.1.2.2.2;rw[e,r.1.1,q,YX<|lW k (gA o).1]
   .have f:eqv p.1 k=false:=by rw[r.1.1];exact tK (gA r.1.2.1).1 (gA o).1 q
    have e:bK k (p::X)=bK k X:=by rw[e,f];rfl
    have e':=e' false<|Y1 q;cases ih r.2 with
    |no a b=>exact .no (e.trans a)<|e'.trans b
    |yes u d a b c=>exact .yes u d (e.trans a) (e'.trans b) c
end
open Classical in
inductive TabAt(h:Heap)(Z:VQ)(a:Addr)(X:VY):Prop
 |mk (M:List (D×Addr×Value)):(a==sysModules)=false->h.DictOfH (f9 prog w) a M->M.length<=Sz->KT h Z M X->TabAt h Z a X
open Classical in
theorem TabAt.mono{X:VY}(hk:∀a o,Z a->h.get? a=some o->h'.get? a=some o)(hz:∀a,Z a->Z' a)(ha:∀o,h.get? a=some o->h'.get? a=some o)(t:TabAt h Z a X):TabAt h' Z' a X:=by obtain⟨M,s,⟨o,es,ep,h1,h2,h3,h4,_,h6⟩,l,r⟩:=t;exact⟨M,s,⟨o,es,ep,ha o h1,h2,h3,h4,(r.mono hk hz).key,h6⟩,l,(r.mono hk hz)⟩
open Classical in
theorem TabAt.live{X:VY}(t:TabAt h Z a X):∃o,h.get? a=some o:=by obtain⟨M,s,⟨o,es,ep,h1,_⟩,_⟩:=t;exact⟨o,h1⟩
end Mv
namespace Mv
open PySem PyProof.Rows
variable [Hp]
set_option genCtorIdx true in
inductive Loc where|dict(a:Addr)(x:Str)|cell(a:Addr)|attr(a:Addr)(ns:VT)(x:Str)
noncomputable def Loc.addr:Loc->Addr|.dict a _=>a|.cell a=>a|.attr a _ _=>a
def eU(h:Heap):Loc->Value->Prop
 |.dict a x,v=> ∃m,h.Ns a m/\m x=some v
 |.cell a,v=>h.IsCell a<|some v
 |.attr a ns x,v=> ∃m,(h.Ns1 a m/\Within m ns)/\m x=some v
def qD(h:Heap):Loc->Prop
 |.dict a _=> ∃m,h.Ns a m
 |.cell a=> ∃v,h.IsCell a v
 |.attr a ns _=> ∃m,h.Ns1 a m/\Within m ns
inductive Sep(l k:Loc):Prop
 |dict (a:Addr) (x z:Str):l = .dict a x->k = .dict a z->x≠z->Sep l k
 |attr (a:Addr) (ns:VT) (x z:Str):l = .attr a ns x->k = .attr a ns z->x≠z->Sep l k
theorem Sep.dict'{k:Loc}(h:Sep k (.dict a x)):∃x',k = .dict a x'/\x'≠x:=by cases h with
 |dict b x' z e1 e2 n=>cases e2;exact⟨x',e1,n⟩
 |attr b ns x' z e1 e2 n=>exact nomatch e2
theorem Sep.noCell{k:Loc}{p:Prop}(h:Sep k (.cell a)):p:=by cases h with
 |dict b x' z e1 e2 n=>exact nomatch e2
 |attr b ns x' z e1 e2 n=>exact nomatch e2
theorem Sep.attr'{k:Loc}{ns:VT}(h:Sep k (.attr a ns x)):∃x',k = .attr a ns x'/\x'≠x:=by cases h with
 |dict b x' z e1 e2 n=>exact nomatch e2
 |attr b ns x' z e1 e2 n=>cases e2;exact⟨x',e1,n⟩
structure Lay where
 loc:Nat->Option Loc
 L:Addr
 F:VQ
 si:Nat
 slf:Option (Addr×Obj)
structure Lay.Wf(y:Lay):Prop where
 apart:∀i j l k,y.loc i=some l->y.loc j=some k->i≠j->l.addr=k.addr->Sep l k
 nf:∀i l,y.loc i=some l-> ¬y.F l.addr
 nL:¬y.F y.L
 cl:∀i a,y.loc i=some (.cell a)->a≠y.L
 al:∀i a ns x,y.loc i=some (.attr a ns x)->a≠y.L
def dH(h:Heap)(Z Fr:VQ):Slot->Value->Prop
 |.no,_=>True
 |.fz d,v=>bE h Z v d
 |.KK d,v=> ∃a,v = .ref a/\Fr a/\cT h Z a d
 |.tab X,v=> ∃a,v = .ref a/\Fr a/\TabAt h Z a X
def NR(o:Obj):Prop:= ∀vs,o.data≠ .fields vs
def Lay.wr(y:Lay)(KK:VP)(a:Addr):Prop:=KK a≠none\/a=y.L\/ ∃i l,y.loc i=some l/\l.addr=a
structure pQ(y:Lay)(Z:VQ)(h:Heap)(p:Addr×Obj):Prop where
 z:Z p.1
 ob:h.get? p.1=some p.2
 rd:∃l,y.loc y.si=some l/\eU h l (.ref p.1)
theorem pQ.mono{y:Lay}{p:Addr×Obj}(x:pQ y Z h p)(kz:∀a o,Z a->h.get? a=some o->h'.get? a=some o)(hz:∀a,Z a->Z' a)(kr:∀l v,y.loc y.si=some l->eU h l v->eU h' l v):pQ y Z' h' p:=
 ⟨hz _ x.z,kz _ _ x.z x.ob,let ⟨l,hl,r⟩:=x.rd;⟨l,hl,kr l _ hl r⟩⟩
inductive Cj(y:Lay)(h:Heap)(Z Ow:VQ)(i:Nat)(sl:Slot):Prop
 |mk (l:Loc) (v:Value):y.loc i=some l->eU h l v->dH h Z Ow sl v->Cj y h Z Ow i sl
structure Inv(y:Lay)(KK:VP)(Z:VQ)(h:Heap)(Y:Fm):Prop where
 wf:y.Wf
 base:∀a o,B.get? a=some o->h.get? a=some o
 zb:∀a o,B.get? a=some o->Z a
 zo:∀a,Z a->KK a=none
 zl:∀i l,y.loc i=some l-> ¬Z l.addr
 ol:∀i l,y.loc i=some l->KK l.addr=none
 zL:¬Z y.L
 oL:KK y.L=none
 zF:∀a,Z a-> ¬y.F a
 oF:∀a,KK a≠none-> ¬y.F a
 zlv:∀a,Z a-> ∃o,h.get? a=some o
 olv:∀a,KK a≠none-> ∃o,h.get? a=some o
 flv:∀a,y.F a-> ∃o,h.get? a=some o/\NR o
 ok:∀i l,y.loc i=some l->qD h l
 nsL:∃m,h.Ns y.L m
 sf:∀p,y.slf=some p->pQ y Z h p
 at':∀i sl,Y[i]?=some sl->sl≠ .no->Cj y h Z (λa=>KK a=some i) i sl
structure Gx(W F:VQ)(h h':Heap):Prop where
 keep:∀a o,h.get? a=some o-> ¬W a-> ¬F a->h'.get? a=some o
 live:∀a o,h.get? a=some o-> ∃o',h'.get? a=some o'
 fram:∀a o,F a->h.get? a=some o-> ∃sl,h'.get? a=some {o with slots:=sl}
structure Step(y:Lay)(bv:VS)(KK:VP)(Z:VQ)(s:Shared)(ag:VP)(Z':VQ)(s':Shared):Prop where
 sh:∃h' tk,s'={s with heap:=h',toks:=tk}
 ext:Gx (y.wr KK) y.F s.heap s'.heap
 zm:∀a,Z a->Z' a
 zn:∀a,Z' a->Z a\/KK a≠none\/s.heap.get? a=none
 on:∀a i,ag a=some i->KK a=some i\/s.heap.get? a=none
 bind:∀i l v,i∉bv->y.loc i=some l->eU s.heap l v->eU s'.heap l v
section
variable {y:Lay}{bv bv':VS}{KK ag uX:VP}{Z Z' n6:VQ}{s s' dQ:Shared}{h h':Heap}{Y dU:Fm}
theorem Gx.refl(W F:VQ)(h:Heap):Gx W F h h:=⟨λaa ai e br eH=>e,λaa o e=>⟨o,e⟩,λaa o ai e=>⟨o.slots,e⟩⟩
theorem Gx.trans{W W' F:VQ}{h h' yf:Heap}(x:Gx W F h h')(z:Gx W' F h' yf)(hw:∀a,W' a->W a\/h.get? a=none):Gx W F h yf where
 keep:=λa o e Ti hf=>z.keep a o (x.keep a o e Ti hf) (λq=>(hw a q).elim Ti λn=>by rw[n]at e;exact am e) hf
 live:=λa o e=>let ⟨o',e'⟩:=x.live a o e;z.live a o' e'
 fram:=λa o f e=>let ⟨sl,e'⟩:=x.fram a o f e;let ⟨wg,KF⟩:=z.fram a _ f e';⟨wg,KF⟩
theorem Step.refl:Step y bv KK Z s KK Z s:=⟨⟨_,_,rfl⟩,.refl _ _ _,λaa z=>z,λaa z=>.inl z,λaa ai e=>.inl e,λaa ai br eH GP r=>r⟩
theorem n8(x:∀a i,ag a=some i->KK a=some i\/h.get? a=none)(a:Addr)(w:y.wr ag a):y.wr KK a\/h.get? a=none:=by
 rcases w with w|w
 .cases e:ag a with
  |none=>exact absurd e w
  |some i=>exact(x a i e).imp (λq=>.inl (by refine O q ?_;exact λn=>by exact nomatch n)) id
 .exact .inl (.inr w)
theorem Step.trans(x:Step y bv KK Z s ag Z' s')(z:Step y bv ag Z' s' uX n6 dQ):Step y bv KK Z s uX n6 dQ where
 sh:=by refine er x.sh λh' tk Q=>?_;subst Q;refine er z.sh λyf C4 u=>?_;subst u;exact⟨_,_,rfl⟩
 ext:=x.ext.trans z.ext<|n8 x.on
 zm:=λa q=>z.zm a<|x.zm a q
 zn:=λa q=>by
  rcases z.zn a q with q|q|q
  .exact x.zn a q
  .cases e:ag a with
   |none=>exact absurd e q
   |some i=>exact(x.on a i e).elim (λw=>.inr<|.inl (by refine O w ?_;exact λn=>by exact nomatch n)) λw=>.inr<|.inr w
  .cases e:s.heap.get? a with
   |none=>exact .inr<|.inr rfl
   |some o=>obtain⟨o',e'⟩:=x.ext.live a o e;rw[q]at e';exact am e'
 on:=λa i q=>by
  rcases z.on a i q with q|q
  .exact x.on a i q
  .cases e:s.heap.get? a with
   |none=>exact .inr rfl
   |some o=>obtain⟨o',e'⟩:=x.ext.live a o e;rw[q]at e';exact am e'
 bind:=λi l v hb hl r=>z.bind i l v hb hl<|x.bind i l v hb hl r
theorem Step.sub(x:Step y bv KK Z s ag Z' s')(hb:∀i,i∈bv->i∈bv'):Step y bv' KK Z s ag Z' s':= {x with bind:=λi l v n hl r=>x.bind i l v (λq=>n<|hb i q) hl r}
theorem Inv.nwr(I:Inv y KK Z h Y)(z:Z a):¬y.wr KK a:=by
 rintro (w|w|⟨i,l,hl,rfl⟩)
 .exact w (I.zo a z)
 .exact I.zL (w▸z)
 .exact I.zl i l hl z
theorem Inv.keepZ(I:Inv y KK Z s.heap Y)(x:Gx (y.wr KK) y.F s.heap h')(a:Addr)(o:Obj)(z:Z a)(e:s.heap.get? a=some o):h'.get? a=some o:=x.keep a o e (I.nwr z)<|I.zF a z
theorem Step.rep(x:Step y bv KK Z s ag Z' s')(I:Inv y KK Z s.heap Y){v:Value}{d:D}(r:bE s.heap Z v d):bE s'.heap Z' v d:=r.mono (I.keepZ x.ext) x.zm
theorem Step.repAll(x:Step y bv KK Z s ag Z' s')(I:Inv y KK Z s.heap Y){vs:VU}{X:VX}(r:aq s.heap Z vs X):aq s'.heap Z' vs X:=r.mono (I.keepZ x.ext) x.zm
def eD(y:Lay)(KK:VP)(Z:VQ)(h₀ h:Heap):Rv->Value->Prop
 |.fz d,v=>bE h Z v d
 |.KK d,v=> ∃a,v = .ref a/\h₀.get? a=none/\ ¬y.wr KK a/\ ¬y.F a/\ ¬Z a/\cT h Z a d
 |.pl (.var i),v=> ∃l,y.loc i=some l/\eU h l v
noncomputable def gq:Rv->VS
 |.pl (.var i)=>[i]
 |_=>[]
theorem Step.rv(x:Step y bv KK Z s ag Z' s')(I:Inv y KK Z s.heap Y){v:Value}{r:Rv}(hb:∀i∈gq r,i∉bv)(q:eD y KK Z h₀ s.heap r v):eD y ag Z' h₀ s'.heap r v:=by cases r with
 |fz d=>exact x.rep I q
 |KK d=>
  obtain⟨a,q⟩:=q;refine O q.1 ?_;obtain⟨o,ho⟩:=q.2.2.2.2.2.live;refine⟨a,rfl,q.2.1,λw=>?_,q.2.2.2.1,λz=>?_,q.2.2.2.2.2.mono (I.keepZ x.ext) x.zm λo e=>x.ext.keep a o e q.2.2.1 q.2.2.2.1⟩
  .rcases n8 x.on a w with w|w
   .exact q.2.2.1 w
   .rw[w]at ho;exact am ho
  .rcases x.zn a z with z|z|z
   .exact q.2.2.2.2.1 z
   .exact q.2.2.1 (.inl z)
   .rw[z]at ho;exact am ho
 |pl p=>cases p with
  |var i=>obtain⟨l,q⟩:=q;exact⟨l,q.1,x.bind i l v (hb i (by simp[gq])) q.1 q.2⟩
theorem eD.since{h₀ h₁ h:Heap}(k:∀a,h₁.get? a=none->h₀.get? a=none){v:Value}{r:Rv}(q:eD y KK Z h₁ h r v):eD y KK Z h₀ h r v:=by cases r with
 |fz d=>exact q
 |KK d=>exact aB q λa q=>(⟨a,q.1,k a q.2.1,q.2.2⟩)
 |pl p=>cases p<;>exact q
theorem Step.old(x:Step y bv KK Z s ag Z' s')(a:Addr)(e:s'.heap.get? a=none):s.heap.get? a=none:=by cases q:s.heap.get? a with
 |none=>rfl
 |some o=>refine aB (x.ext.live a o q) λo' e'=>?_;rw[e]at e';exact am e'
theorem Step.addZ(x:Step y bv KK Z s ag Z' s')(e:s.heap.get? a=none):Step y bv KK Z s ag (λb=>Z' b\/b=a) s':=
 {x with
  zm:=λb z=>.inl<|x.zm b z
  zn:=λb z=>z.elim (x.zn b) λq=>.inr (.inr<|q▸e)}
theorem dH.mono{Fr O':VQ}{sl:Slot}{v:Value}(hk:∀a o,Z a->h.get? a=some o->h'.get? a=some o)(hz:∀a,Z a->Z' a)(ho:∀a,Fr a->O' a)(Tt:∀a o,Fr a->h.get? a=some o->h'.get? a=some o)
  (x:dH h Z Fr sl v):dH h' Z' O' sl v:=by
 cases sl with
 |no=>trivial
 |fz d=>exact bE.mono hk hz x
 |KK d=>obtain⟨a,rfl,oa,w⟩:=x;exact⟨a,rfl,ho a oa,w.mono hk hz λo e=>Tt a o oa e⟩
 |tab d=>obtain⟨a,rfl,oa,w⟩:=x;exact⟨a,rfl,ho a oa,w.mono hk hz λo e=>Tt a o oa e⟩
theorem eU.keeps{l:Loc}{v:Value}(k:∀o,h.get? l.addr=some o->h'.get? l.addr=some o)(x:eU h l v):eU h' l v:=by cases l with
 |dict a z=>refine aB x λm x=>?_;have hn:=x.1;have e:=x.2;exact⟨m,hn.at' k,e⟩
 |cell a=>exact aB x λo x=>(⟨o,k _ x.1,x.2⟩)
 |attr a ns z=>obtain⟨m,⟨⟨o,es,ep,e1,r⟩,w⟩,e⟩:=x;exact⟨m,⟨⟨o,es,ep,k o e1,r⟩,w⟩,e⟩
theorem qD.keeps{l:Loc}(k:∀o,h.get? l.addr=some o->h'.get? l.addr=some o)(x:qD h l):qD h' l:=by cases l with
 |dict a z=>exact aB x λm hn=>(⟨m,hn.at' k⟩)
 |cell a=>exact er x λv o x=>(⟨v,o,k _ x.1,x.2⟩)
 |attr a ns z=>obtain⟨m,⟨o,es,ep,e1,r⟩,w⟩:=x;exact⟨m,⟨o,es,ep,k o e1,r⟩,w⟩
theorem qD.live{l:Loc}(x:qD h l):∃o,h.get? l.addr=some o:=by cases l with
 |dict a z=>refine pc x λm o aa ai x=>?_;have ho:=x.1;exact⟨o,ho⟩
 |cell a=>refine er x λv o x=>?_;have ho:=x.1;have hd:=x.2;exact⟨o,ho⟩
 |attr a ns z=>obtain⟨m,⟨o,_,_,ho,_⟩,_⟩:=x;exact⟨o,ho⟩
theorem Inv.grow(I:Inv y KK Z h Y)(k:∀b o,h.get? b=some o->h'.get? b=some o):Inv y KK Z h' Y where
 wf:=I.wf
 base:=λa o e=>k a o<|I.base a o e
 zb:=I.zb
 zo:=I.zo
 zl:=I.zl
 ol:=I.ol
 zL:=I.zL
 oL:=I.oL
 zF:=I.zF
 oF:=I.oF
 zlv:=λa z=>let ⟨o,e⟩:=I.zlv a z;⟨o,k a o e⟩
 olv:=λa z=>let ⟨o,e⟩:=I.olv a z;⟨o,k a o e⟩
 flv:=λa z=>let ⟨o,e,q⟩:=I.flv a z;⟨o,k a o e,q⟩
 ok:=λi l e=>(I.ok i l e).keeps λo=>k _ o
 nsL:=let ⟨m,hn⟩:=I.nsL;⟨m,hn.keeps k⟩
 sf:=λp e=>(I.sf p e).mono (λa o aa=>k a o) (λaa z=>z) λl v aa r=>r.keeps λo=>k _ o
 at':=λi sl e n=>let ⟨l,v,hl,r,q⟩:=I.at' i sl e n;⟨l,v,hl,r.keeps λo=>k _ o,q.mono (λa o aa=>k a o) (λaa z=>z) (λaa z=>z) λa o aa=>k a o⟩
theorem Step.grow(k:∀b o,s.heap.get? b=some o->h'.get? b=some o):Step y bv KK Z s KK Z {s with heap:=h',toks:=tk} where
 sh:=⟨_,_,rfl⟩
 ext:=⟨λa o e aa ai=>k a o e,λa o e=>⟨o,k a o e⟩,λa o aa e=>⟨o.slots,k a o e⟩⟩
 zm:=λaa z=>z
 zn:=λaa z=>.inl z
 on:=λaa ai e=>.inl e
 bind:=λi l v aa ai r=>r.keeps λo=>k _ o
theorem Inv.addP(I:Inv y KK Z h Y){P:VQ}(np:∀b,P b-> ¬y.wr KK b/\ ¬y.F b/\ ∃o,h.get? b=some o):Inv y KK (λb=>Z b\/P b) h Y where
 wf:=I.wf
 base:=I.base
 zb:=λa o e=>.inl<|I.zb a o e
 zo:=λb z=>z.elim (I.zo b) λq=>by cases w:KK b with
  |none=>rfl
  |some i=>exact absurd (.inl (by refine O w ?_;exact λn=>by exact nomatch n)) (np b q).1
 zl:=λi l e z=>z.elim (I.zl i l e) λq=>(np _ q).1<|.inr<|.inr ⟨i,l,e,rfl⟩
 ol:=I.ol
 zL:=λz=>z.elim I.zL λq=>(np _ q).1<|.inr<|.inl rfl
 oL:=I.oL
 zF:=λb z=>z.elim (I.zF b) λq=>(np b q).2.1
 oF:=I.oF
 zlv:=λb z=>z.elim (I.zlv b) λq=>(np b q).2.2
 olv:=I.olv
 flv:=I.flv
 ok:=I.ok
 nsL:=I.nsL
 sf:=λp e=>(I.sf p e).mono (λaa ai br e=>e) (λaa z=>.inl z) λaa ai br r=>r
 at':=λi sl e n=>let ⟨l,v,hl,r,q⟩:=I.at' i sl e n;⟨l,v,hl,r,q.mono (λaa ai br e=>e) (λaa z=>.inl z) (λaa z=>z) λaa ai br e=>e⟩
theorem Inv.addZ(I:Inv y KK Z h Y)(nw:¬y.wr KK a)(nf:¬y.F a)(e:h.get? a=some o):Inv y KK (λb=>Z b\/b=a) h Y:=
 I.addP (P:=λb=>b=a) λb q=>O (IO:=λb=> ¬y.wr KK b/\ ¬y.F b/\ ∃o,h.get? b=some o) q ⟨nw,nf,o,e⟩
theorem Inv.fresh(I:Inv y KK Z h Y)(e:h.get? a=none):¬y.wr KK a/\ ¬y.F a/\ ¬Z a:=by
 refine⟨?_,λf=>?_,λz=>?_⟩
 .rintro (w|w|⟨i,l,hl,rfl⟩)
  .obtain⟨o,q⟩:=I.olv a w;rw[e]at q;exact am q
  .refine pc I.nsL λm o aa ai Q=>?_;have q:=Q.1;rw[<- w,e]at q;exact am q
  .obtain⟨o,q⟩:=(I.ok i l hl).live;rw[e]at q;exact am q
 .obtain⟨o,u⟩:=I.flv a f;have q:=u.1;rw[e]at q;exact am q
 .obtain⟨o,q⟩:=I.zlv a z;rw[e]at q;exact am q
theorem Step.growZ(k:∀b o,s.heap.get? b=some o->h'.get? b=some o)(e:s.heap.get? a=none):Step y bv KK Z s KK (λb=>Z b\/b=a) {s with heap:=h',toks:=tk} where
 sh:=⟨_,_,rfl⟩
 ext:=⟨λa o e aa ai=>k a o e,λa o e=>⟨o,k a o e⟩,λa o aa e=>⟨o.slots,k a o e⟩⟩
 zm:=λaa z=>.inl z
 zn:=λb z=>z.elim .inl λq=>.inr<|.inr<|q▸e
 on:=λaa ai e=>.inl e
 bind:=λi l v aa ai r=>r.keeps λo=>k _ o
theorem Inv.growZ(I:Inv y KK Z h Y)(k:∀b o,h.get? b=some o->h'.get? b=some o)(e:h.get? a=none)(e':h'.get? a=some o):Inv y KK (λb=>Z b\/b=a) h' Y:=
 (I.grow k).addZ (I.fresh e).1 (I.fresh e).2.1 e'
set_option tactic.hygienic true in
theorem dB{Y:Fm}{sl wg:Slot}(e:(Y.set i sl)[j]?=some wg):(j=i/\wg=sl)\/(j≠i/\Y[j]?=some wg):=by
 rw[List.getElem?_set]at e;split at e
 .rename_i q;split at e
  .exact .inl ⟨q.symm,(Y5 e).symm⟩
  .exact am e
 .rename_i q;exact .inr ⟨λw=>q w.symm,e⟩
theorem Inv.forget(I:Inv y KK Z h Y)(i:Nat):Inv y KK Z h (Y.set i .no):=
 {I with
  at':=by
   intro j sl e n;rcases dB e with⟨rfl,rfl⟩|⟨_,e⟩
   .exact absurd rfl n
   .exact I.at' j sl e n}
theorem Inv.clr(I:Inv y KK Z h Y):∀l:VS,Inv y KK Z h (clr Y l):=by intro l;induction l generalizing Y with
 |nil=>exact I
 |cons i l ih=>exact ih<|I.forget i
noncomputable def i4(KK:VP)(a:Addr):VP:=λb=>if b=a then none else KK b
noncomputable def addO(KK:VP)(a:Addr)(i:Nat):VP:=λb=>if b=a then some i else KK b
set_option tactic.hygienic true in
theorem um{b:Addr}(e:i4 KK a b=some j):KK b=some j/\b≠a:=by
 unfold i4 at e;split at e
 .exact am e
 .rename_i q;exact⟨e,q⟩
set_option tactic.hygienic true in
theorem rM{b:Addr}(e:i4 KK a b≠none):KK b≠none/\b≠a:=by
 unfold i4 at e;split at e
 .exact absurd rfl e
 .rename_i q;exact⟨e,q⟩
inductive HN(y:Lay)(KK:VP)(Z:VQ)(h:Heap)(Y:Fm)(i:Nat)(d:D):Prop
 |mk (l:Loc) (a:Addr):y.loc i=some l->eU h l (.ref a)->KK a=some i->bE h (λb=>Z b\/b=a) (.ref a) d->Inv y (i4 KK a) (λb=>Z b\/b=a) h (Y.set i<|.fz d)->HN y KK Z h Y i d
set_option tactic.hygienic true in
theorem Inv.freeze(I:Inv y KK Z h Y){d:D}(hs:Y[i]?=some (.KK d)):
  HN y KK Z h Y i d:=by
 obtain⟨l,v,hl,hr,a,rfl,oa,w⟩:=I.at' i _ hs (by intro n;exact Slot.noConfusion n);have on:KK a≠none:=by exact O oa (λn=>by cases n)
 refine aB w.live λo ho=>?_;have R:bE h (λb=>Z b\/b=a) (.ref a) d:=w.rep (λaa z=>.inl z)<|.inr rfl;refine⟨l,a,hl,hr,oa,R,⟨I.wf,I.base,λb o e=>.inl<|I.zb b o e,λb z=>?_,λj k e z=>?_,λj k e=>?_,λz=>?_,?_,λb z=>?_,λb z=>I.oF b (rM z).1,λb z=>z.elim (I.zlv b) λq=>⟨o,q▸ho⟩,λb z=>I.olv b (rM z).1,I.flv,I.ok,I.nsL,λp e=>(I.sf p e).mono (λaa ai br e=>e) (λaa z=>.inl z) λaa ai br r=>r,λj sl e n=>?_⟩⟩
 .unfold i4;split
  .rfl
  .exact z.elim (I.zo b) λq=>absurd q ‹_›
 .exact z.elim (I.zl j k e) λq=>by have:=I.ol j k e;rw[q]at this;have this:=oa▸this;exact nomatch this
 .unfold i4;split
  .rfl
  .exact I.ol j k e
 .exact z.elim I.zL λq=>by have:=I.oL;have this:=q▸this;have this:=oa▸this;cases this
 .unfold i4;split
  .rfl
  .exact I.oL
 .exact z.elim (I.zF b) λq=>q▸I.oF a on
 .rcases dB e with⟨rfl,rfl⟩|⟨de,e⟩
  .exact⟨l,.ref a,hl,hr,R⟩
  .obtain⟨k,v,hk,r,q⟩:=I.at' j sl e n;refine⟨k,v,hk,r,q.mono (λaa ai br e=>e) (λaa z=>.inl z) (λb z=>?_) λaa ai br e=>e⟩;unfold i4;split
   .rename_i w';rw[w',oa]at z;exact absurd (Y5 z).symm de
   .exact z
theorem Step.freeze(oa:KK a=some i):Step y bv KK Z s (i4 KK a) (λb=>Z b\/b=a) s where
 sh:=⟨_,_,rfl⟩
 ext:=.refl _ _ _
 zm:=λaa z=>.inl z
 zn:=λb z=>z.elim .inl λq=>.inr<|.inl (by refine O q<|O oa ?_;exact λn=>by exact nomatch n)
 on:=λb j e=>.inl (um e).1
 bind:=λaa ai br eH GP r=>r
theorem Inv.chg(I:Inv y KK Z h Y){l:Loc}(hl:y.loc i=some l)(hk:∀a o,a≠l.addr->h.get? a=some o->h'.get? a=some o)
  (ho:∀j k w,j≠i->y.loc j=some k->eU h k w->eU h' k w) (hok:∀j k,y.loc j=some k->qD h' k) (JT:∃m,h'.Ns y.L m) (hi:∀p,y.slf=some p->y.si≠i):Inv y KK Z h' (Y.set i .no):=by
 have kz:∀a o,Z a->h.get? a=some o->h'.get? a=some o:=λa o z e=>hk a o (λq=>I.zl i l hl<|q▸z) e;have ko:∀a o,KK a≠none->h.get? a=some o->h'.get? a=some o:=λa o z e=>hk a o (λq=>z<|q▸I.ol i l hl) e;refine⟨I.wf,λa o e=>kz a o (I.zb a o e)<|I.base a o e,I.zb,I.zo,I.zl,I.ol,I.zL,I.oL,I.zF,I.oF,λa z=>?_,λa z=>?_,λa f=>?_,hok,JT,λp e=>(I.sf p e).mono kz (λaa z=>z) λl v cC r=>ho _ l v (hi p e) cC r,λj sl e n=>?_⟩
 .obtain⟨o,e⟩:=I.zlv a z;exact⟨o,kz a o z e⟩
 .obtain⟨o,e⟩:=I.olv a z;exact⟨o,ko a o z e⟩
 .obtain⟨o,Q⟩:=I.flv a f;exact⟨o,hk a o (λq=>I.wf.nf i l hl<|q▸f) Q.1,Q.2⟩
 .rcases dB e with⟨rfl,rfl⟩|⟨de,e⟩
  .exact absurd rfl n
  .obtain⟨k,w,e6,r,q⟩:=I.at' j sl e n;exact⟨k,w,e6,ho j k w de e6 r,q.mono kz (λaa z=>z) (λaa z=>z) λa o z=>ko a o (by refine O z ?_;exact λn=>by exact nomatch n)⟩
theorem Inv.setSl{l:Loc}{v:Value}{sl:Slot}(I:Inv y KK Z h' (Y.set i .no))(hl:y.loc i=some l)(hr:eU h' l v)(R:dH h' Z (λa=>KK a=some i) sl v):Inv y KK Z h' (Y.set i sl):=by
 refine {I with at':=λj wg e n=>?_};rcases dB e with⟨rfl,rfl⟩|⟨de,e⟩
 .exact⟨l,v,hl,hr,R⟩
 .exact I.at' j wg (by refine O (List.getElem?_set_ne<|Ne.symm de) ?_;exact e) n
theorem Inv.setFz(I:Inv y KK Z h Y){l:Loc}{v:Value}{d:D}(hl:y.loc i=some l)(hk:∀a o,a≠l.addr->h.get? a=some o->h'.get? a=some o)(VB:∃o,h'.get? l.addr=some o)
  (hr:eU h' l v) (ho:∀j k w,j≠i->y.loc j=some k->eU h k w->eU h' k w) (hok:∀j k,y.loc j=some k->qD h' k) (JT:∃m,h'.Ns y.L m) (hi:∀p,y.slf=some p->y.si≠i) (R:bE h Z v d):Inv y KK Z h' (Y.set i<|.fz d):=
 (I.chg hl hk ho hok JT hi).setSl hl hr (show bE h' Z v d from R.mono (λa o z e=>hk a o (λq=>I.zl i l hl<|q▸z) e) λaa z=>z)
theorem xT:addO KK a i a=some i:=by simp[addO]
theorem fL{b:Addr}(q:b≠a):addO KK a i b=KK b:=by simp[addO,q]
theorem Inv.setOwn(I:Inv y KK Z h Y){l:Loc}{sl:Slot}(hl:y.loc i=some l)(hk:∀a o,a≠l.addr->h.get? a=some o->h'.get? a=some o)
  (hr:eU h' l (.ref a)) (ho:∀j k w,j≠i->y.loc j=some k->eU h k w->eU h' k w) (hok:∀j k,y.loc j=some k->qD h' k) (JT:∃m,h'.Ns y.L m) (hi:∀p,y.slf=some p->y.si≠i)
  (nw:¬y.wr KK a) (nf:¬y.F a) (nz:¬Z a) (lv:∃o,h.get? a=some o) (w:dH h Z (λb=>b=a) sl (.ref a)):Inv y (addO KK a i) Z h' (Y.set i sl):=by
 have kz:∀a o,Z a->h.get? a=some o->h'.get? a=some o:=λa o z e=>hk a o (λq=>I.zl i l hl<|q▸z) e;have ko:∀a o,KK a≠none->h.get? a=some o->h'.get? a=some o:=λa o z e=>hk a o (λq=>z<|q▸I.ol i l hl) e;have ka:∀o,h.get? a=some o->h'.get? a=some o:=λo e=>hk a o (λq=>nw<|.inr<|.inr ⟨i,l,hl,q.symm⟩) e;have na:KK a=none:=by cases e:KK a with
  |none=>rfl
  |some j=>exact absurd (.inl (by refine O e ?_;exact λn=>by exact nomatch n)) nw
 have nl:∀j k,y.loc j=some k->k.addr≠a:=λj k e q=>nw<|.inr<|.inr ⟨j,k,e,q⟩;obtain⟨oa,Q3⟩:=lv;refine⟨I.wf,λa o e=>kz a o (I.zb a o e)<|I.base a o e,I.zb,λb z=>?_,I.zl,λj k e=>?_,I.zL,?_,I.zF,λb z=>?_,λb z=>?_,λb z=>?_,λb f=>?_,hok,JT,λp e=>(I.sf p e).mono kz (λaa z=>z) λl v cC r=>ho _ l v (hi p e) cC r,λj sl e n=>?_⟩
 .have q:b≠a:=λq=>nz<|q▸z;exact O (fL q)<|I.zo b z
 .exact O (fL<|nl j k e) (I.ol j k e)
 .have q:y.L≠a:=λq=>nw<|.inr<|.inl q.symm;exact O (fL q) I.oL
 .by_cases q:b=a
  .exact q▸nf
  .rw[fL q]at z;exact I.oF b z
 .obtain⟨o,e⟩:=I.zlv b z;exact⟨o,kz b o z e⟩
 .by_cases q:b=a
  .exact⟨oa,q▸ka oa Q3⟩
  .rw[fL q]at z;obtain⟨o,e⟩:=I.olv b z;exact⟨o,ko b o z e⟩
 .obtain⟨o,Q⟩:=I.flv b f;exact⟨o,hk b o (λq=>I.wf.nf i l hl<|q▸f) Q.1,Q.2⟩
 .rcases dB e with⟨rfl,rfl⟩|⟨de,e⟩
  .exact⟨l,.ref a,hl,hr,dH.mono (Fr:=λb=>b=a) kz (λaa z=>z) (λb q=>by subst q;exact xT) (λb o q e=>by subst q;exact ka o e) w⟩
  .obtain⟨k,w,e6,r,q⟩:=I.at' j sl e n;refine⟨k,w,e6,ho j k w de e6 r,q.mono kz (λaa z=>z) (λb z=>?_) λa o z=>ko a o (by refine O z ?_;exact λn=>by exact nomatch n)⟩;rw[fL]
   .exact z
   .intro q;rw[q,na]at z;exact am z
theorem Inv.setC(I:Inv y KK Z h Y){sl:Slot}{l:Loc}(hl:y.loc i=some l)(hr:eU h l (.ref a))(oa:KK a=some i)
  (hk:∀b o,b≠a->h.get? b=some o->h'.get? b=some o) (lv:∃o,h'.get? a=some o) (w:dH h' Z (λb=>KK b=some i) sl (.ref a)):Inv y KK Z h' (Y.set i sl):=by
 have on:KK a≠none:=by exact O oa (λn=>by exact nomatch n)
 have kz:∀b o,Z b->h.get? b=some o->h'.get? b=some o:=λb o z e=>hk b o (λq=>on<|q▸I.zo b z) e;have kl:∀j k,y.loc j=some k-> ∀o,h.get? k.addr=some o->h'.get? k.addr=some o:=λj k e o=>hk _ o λq=>on<|q▸I.ol j k e;obtain⟨Jg,Q3⟩:=lv;refine⟨I.wf,λa o e=>kz a o (I.zb a o e)<|I.base a o e,I.zb,I.zo,I.zl,I.ol,I.zL,I.oL,I.zF,I.oF,λb z=>?_,λb z=>?_,λb f=>?_,λj k e=>(I.ok j k e).keeps<|kl j k e,?_,λp e=>(I.sf p e).mono kz (λaa z=>z) λl v cC r=>r.keeps<|kl _ _ cC,λj sl e n=>?_⟩
 .obtain⟨o,e⟩:=I.zlv b z;exact⟨o,kz b o z e⟩
 .by_cases q:b=a
  .exact⟨Jg,q▸Q3⟩
  .obtain⟨o,e⟩:=I.olv b z;exact⟨o,hk b o q e⟩
 .obtain⟨o,Q⟩:=I.flv b f;exact⟨o,hk b o (λq=>I.oF a on<|q▸f) Q.1,Q.2⟩
 .obtain⟨m,hn⟩:=I.nsL;exact⟨m,hn.at' λo=>hk _ o λq=>on<|q▸I.oL⟩
 .rcases dB e with⟨rfl,rfl⟩|⟨de,e⟩
  .exact⟨l,.ref a,hl,hr.keeps<|kl _ _ hl,w⟩
  .obtain⟨k,v,e6,r,q⟩:=I.at' j sl e n;refine⟨k,v,e6,r.keeps<|kl _ _ e6,q.mono kz (λaa z=>z) (λaa z=>z) λb o z e=>hk b o (λq=>?_) e⟩;rw[q,oa]at z;exact de (Y5 z).symm
end
def cU(h:Heap)(Z:VQ)(v:Value)(d:D):Prop:=bE h Z v d\/ ∃a,v = .ref a/\cT h Z a d
section
variable {h h':Heap}{Z Z':VQ}{v:Value}
theorem bE.dat{d:D}(r:bE h Z v d):cU h Z v d:=.inl r
inductive LK(v:Value)(i:Int):Prop
 |mk (t:_):v = .int i t->LK v i
inductive LG(v:Value)(x:Str):Prop
 |mk (t:_):v = .str x t->PyData.strOk x=true->x.cps.size<=Sz->LG v x
inductive LI(h:Heap)(Z:VQ)(v:Value)(X:VX):Prop
 |mk (a:Addr) (vs:VU) (n:Nat):v = .ref a->IsL h a vs.toArray n->vs.length<=Sz->aq h Z vs X->LI h Z v X
inductive LB(h:Heap)(Z:VQ)(v:Value)(X:VX):Prop
 |mk (a:Addr) (vs:VU) (n:Nat):v = .ref a->IsT h a vs.toArray n->vs.length<=Sz->aq h Z vs X->Z a->LB h Z v X
inductive LJ(h:Heap)(Z:VQ)(v:Value)(X:VY):Prop
 |mk (a:Addr) (kvs:List (Str×Value)):v = .ref a->i7 h a kvs->kvs.length<=Sz->aS h Z kvs X->LJ h Z v X
def LH(h:Heap)(Z:VQ)(v:Value):D->Prop
 |.none=>v = .none
 |.bool b=>v = .bool b
 |.int i=>LK v i
 |.str x=>LG v x
 |.list X=>LI h Z v X
 |.tuple X=>LB h Z v X
 |.dict X=>LJ h Z v X
theorem cU.q{d:D}(r:cU h Z v d):LH h Z v d:=r.elim
 (λr=>bE.casesOn (motive_1:=λv d aa=>LH h Z v d) r rfl (λaa=>rfl) (λaa t=>⟨t,rfl⟩) (λaa t o l=>⟨t,rfl,o,l⟩) (λaa g l r=>⟨_,_,_,rfl,g,l,r⟩) (λz g l r=>⟨_,_,_,rfl,g,l,r,z⟩) (λaa g l r=>⟨_,_,rfl,g,l,r⟩))
 λ⟨a,e,w⟩=>O e<|cT.casesOn (motive:=λd aa=>LH h Z (.ref a) d) w (λg l r=>⟨_,_,_,rfl,g,l,r⟩) (λg l r=>⟨_,_,rfl,g,l,r⟩)
theorem cU.none(r:cU h Z v .none):v = .none:=r.q
theorem cU.bool(r:cU h Z v (.bool b)):v = .bool b:=r.q
theorem cU.int{i:Int}(r:cU h Z v (.int i)):LK v i:=r.q
theorem cU.str{x:Str}(r:cU h Z v (.str x)):LG v x:=r.q
theorem cU.list{X:VX}(r:cU h Z v (.list X)):LI h Z v X:=r.q
theorem cU.tuple{X:VX}(r:cU h Z v (.tuple X)):LB h Z v X:=r.q
theorem cU.dict{X:VY}(r:cU h Z v (.dict X)):LJ h Z v X:=r.q
theorem cT.reads{d:D}(x:cT h Z a d)(e:noDict d=true):∃as,Reads h (.ref a) d as:=by cases x with
 |list g l r=>obtain⟨as,q⟩:=r.reads e;exact⟨_,.list g rfl rfl q⟩
 |dict g l r=>exact tf e
theorem cU.reads{d:D}(r:cU h Z v d)(e:noDict d=true):∃as,Reads h v d as:=by
 rcases r with r|⟨a,rfl,r⟩
 .exact r.reads e
 .exact r.reads e
theorem cU.canLay{d:D}(r:cU h Z v d)(e:noDict d=true):d.canLay0=true:=by
 rcases r with r|⟨a,rfl,r⟩
 .exact r.canLay e
 .cases r with
  |list g l r=>rw[canLay0];exact r.canLay e
  |dict g l r=>exact tf e
end
theorem aS.isSome{vs:List (Str×Value)}{X:VY}{k:Str}(r:aS h Z vs X):(valueAt vs k).isSome=(aR X k).isSome:=by rcases r.get (k:=k) with⟨h1,h2⟩|⟨v,d,h1,h2,_⟩<;>exact O h1 (O h2 rfl)<;>rfl
inductive vT(Z:VQ)(h h':Heap):Rv->Value->Prop
 |old {d:D} {v:Value}:bE h' Z v d->vT Z h h' (.fz d) v
 |new {a:Addr} {o:Obj} {d:D}:h.get? a=none->h'.get? a=some o->bE h' (λb=>Z b\/b=a) (.ref a) d->vT Z h h' (.fz d) (.ref a)
 |KK {a:Addr} {d:D}:h.get? a=none->cT h' Z a d->vT Z h h' (.KK d) (.ref a)
inductive Op(Z:VQ)(s:Shared)(r:Rv)(v:Value)(s':Shared):Prop
 |mk (h':Heap) (tk:Nat):s'={s with heap:=h',toks:=tk}->(∀b o,s.heap.get? b=some o->h'.get? b=some o)->vT Z s.heap h' r v->Op Z s r v s'
theorem w8(h:Heap):h.get? h.objs.size=none:=by cases q:h.get? h.objs.size with
 |none=>rfl
 |some o=>exact absurd (ZZ q)<|Zf _
theorem pK(o:Obj)(b:Addr)(x:Obj)(e:h.get? b=some x):(h.push o).get? b=some x:=Z2 o e
section
variable {Z:VQ}{s:Shared}
theorem Op.val{d:D}{v:Value}(r:bE s.heap Z v d):Op Z s (.fz d) v s:=⟨s.heap,s.toks,rfl,λaa ai e=>e,.old r⟩
theorem Op.valT{d:D}{v:Value}(r:bE s.heap Z v d):Op Z s (.fz d) v {s with toks:=tk}:=⟨s.heap,tk,rfl,λaa ai e=>e,.old r⟩
theorem Op.bool:Op Z s (.fz<|.bool b) (.bool b) s:=.val<|.bool b
theorem Op.int{i:Int}{t tk:Nat}:Op Z s (.fz<|.int i) (.int i t) {s with toks:=tk}:=.valT<|.int i t
theorem Op.newL{vs:VU}{X:VX}{n:Nat}(r:aq s.heap Z vs X)(hl:vs.length≤Sz) :Op Z s (.KK (.list X)) (.ref s.heap.objs.size) {s with heap:=s.heap.push {cls:=.type "list",data:=.seq vs.toArray n}}:=
 ⟨_,s.toks,rfl,pK _,.KK (w8 _)<|.list (Z1 _ rfl) hl<|r.mono (λa o aa e=>pK _ a o e) λaa z=>z⟩
theorem Op.newT{vs:VU}{X:VX}{n:Nat}(r:aq s.heap Z vs X)(hl:vs.length≤Sz) :Op Z s (.fz (.tuple X)) (.ref s.heap.objs.size) {s with heap:=s.heap.push {cls:=.type "tuple",data:=.seq vs.toArray n}}:=
 ⟨_,s.toks,rfl,pK _,.new (w8 _) (Z1 _ rfl)<|.tuple (.inr rfl) (Z1 _ rfl) hl<|r.mono (λa o aa e=>pK _ a o e) λaa z=>.inl z⟩
end
theorem bW:Sz=sizeLine:=by decide
section
variable {A:Around}{E:VR}{s:Shared}{Z:VQ}{a b:Value}
theorem j0:fillsNumberSlot (.type "tuple") "mul"=pure false:=
 PySem.fillsNumberSlot_seq (id:="tuple.__mul__") (r:=some (.builtin "tuple.__rmul__")) F.slot_tuple_mul.lookup (by decide +kernel) F.slot_tuple_rmul.lookup (by decide +kernel)
theorem oy:seqRepeat? (.type "tuple")=pure (some (.builtin "tuple.__mul__")):=by unfold seqRepeat?;rw [PySem.seqSlot_of (T:="tuple") (name:="__mul__") (id:="tuple.__mul__") F.slot_tuple_mul.lookup (by decide +kernel),PySem.seqSlot_of (T:="tuple") (name:="__rmul__") (id:="tuple.__rmul__") F.slot_tuple_rmul.lookup (by decide +kernel)];rfl
theorem qg(x:Int)(t:Tok)(l:Addr)(ac:Array Value)(n:Nat):
  Meets (Builtin.«int.__rmul__» ⟨[.int x t,.ref l],[]⟩) (λaa R s=>IsT s.heap l ac n/\R (.ok<|.ret Value.notImplemented) s):=
 .of_wp λprog w A R s h=>by obtain⟨hp,g,d,tk,os⟩:=s;obtain⟨hl,h⟩:=h;wp_walk;exact⟨_,rfl,h⟩
theorem jo(l:Addr)(ac:Array Value)(n:Nat)(x:Int)(u:Tok)(hx:0<x)(UU:x<=1000000000)(hc:¬(ac.isEmpty||x==1)=true)(hz:ac.size*x.toNat<=Sz):
  Meets (Builtin.«tuple.__mul__» ⟨[.ref l,.int x u],[]⟩) (fun aa R s=>IsT s.heap l ac n∧R (.ok (.ret (.ref s.heap.objs.size))) {s with heap:=s.heap.push {cls:=.type "tuple",data:=.seq (foldl (fun x1 x2=>x1 ++ x2) #[] (replicate x.toNat ac))}}):=
 .of_wp λprog w A R s h=>by
  obtain⟨hp,g,d,tk,os⟩:=s;obtain⟨hl,h⟩:=h;have he:(ac.size:Int)*x=((ac.size*x.toNat:Nat):Int):=by rw[Int.natCast_mul,ZT (by exact(dJ [] [x] 1 (.le (.c 0)<|.v 0) [(1,.le (.a (.c 0)<|.c 1)<|.v 0)] rfl hx))]
  have de:ac.isEmpty=false:=by cases q:ac.isEmpty with
   |false=>rfl
   |true=>rw[q]at hc;exact absurd rfl hc
  have hsz:(foldl (λx1 x2=>x1++x2) #[] (replicate x.toNat ac)).size<=sizeLine:=by rw[AutoSeq1.size_joined,<- bW,mul_comm];simpa using hz
  wp_walk
  refine YT (Y1 (by simp;exact⟨(dJ [] [x] 1 (.le (.g<|.c 9223372036854775808)<|.v 0) [(1,.le (.a (.c 0)<|.c 1)<|.v 0)] rfl hx),(dJ [] [x] 1 (.le (.a (.v 0)<|.c 1)<|.c 9223372036854775808) [(1,.le (.v 0)<|.c 1000000000)] rfl UU)⟩)) ?_
  wp_walk
  refine YT (Y1 hc) ?_
  wp_walk
  refine YT (Y1 (by rw[he];simp only[Sz]at hz;omega)) ?_
  wp_walk
  refine YT (Y1 (by rw[he];unfold Builtin.Tuple.tupleTooMany;rw[<- bW];simp only[gt_iff_lt,YZ,Int.not_lt];exact ofNat_le.mpr hz)) ?_
  wp_walk
  exact⟨_,rfl,h⟩
theorem C3(ac:VU)(k:Nat):foldl (λx1 x2=>x1++x2) #[] (replicate k ac.toArray)=(replicate k ac).flatten.toArray:=by
 have:=listMul_foldl ac.toArray k #[]
 simpa using this
set_option tactic.hygienic true in
theorem intBits_le{x:Int}(h:x.natAbs<2 ^ 64):Builtin.Int.intBits x<=64:=by
 unfold Builtin.Int.intBits;split
 .exact Y7 _
 .rename_i q;have hx:x.natAbs≠0:=by intro e;exact q (by simpa using e)
  exact(log2_lt hx).mpr h
theorem tF{x z:Int}(h:qL x z=true):IntMulOk x z:=by
 rcases or_eq_true_iff.mp h with h|h
 .exact .of_left (intBits_le<|YW h)
 .exact .of_right (intBits_le<|YW h)
theorem oj{z:Str}(h:PyData.strOk x=true)(k:PyData.strOk z=true):PyData.strOk (x++z)=true:=by unfold PyData.strOk at *;refine O Array.all_append<|O h<|O k ?_;rfl
theorem oz(n:Int)(M:List α):(rep n M).length=M.length*n.toNat:=by unfold rep;refine O List.length_flatten ?_;simp[mul_comm]
theorem v8(M:VS)(k:Nat)(VM:VS):(replicate k M.toArray).foldl (· ++ ·) VM.toArray=(VM++(replicate k M).flatten).toArray:=by induction k generalizing VM with
 |zero=>simp
 |succ k ih=>refine O List.replicate_succ ?_;refine O List.foldl_cons ?_;rw[List.append_toArray,ih,List.replicate_succ,List.flatten_cons,ZP]
set_option tactic.hygienic true in
theorem CY(x:Str)(n:Int):Txt.mul x n=⟨(rep n x.cps.toList).toArray⟩:=by
 obtain⟨⟨l⟩⟩:=x;unfold Txt.mul rep;split
 .rename_i h;have e:n.toNat=0:=by omega
  refine O e ?_;rfl
 .rename_i h;split
  .rename_i q;rcases or_eq_true_iff.mp q with q|q
   .have e:n=1:=by simpa using q
    subst e;simp
   .have e:l=[]:=by simpa [Str.length] using q
    subst e;simp
  .have:=v8 l n.toNat []
   simpa using Y2 Str.mk this
theorem wb(n:Int)(h:PyData.strOk x=true):PyData.strOk ⟨(rep n x.cps.toList).toArray⟩=true:=by
 unfold PyData.strOk at *;rw[<- all_toList]at *;rw[ZQ]at *;intro c hc;have ri:c∈rep n x.cps.toList:=by exact hc
 unfold rep at ri;obtain⟨l,hl,hm⟩:=List.mem_flatten.mp ri;rw[List.eq_of_mem_replicate hl]at hm;exact h c hm
set_option tactic.hygienic true in
theorem zr{x z:Int}(h:z.natAbs<2 ^ 64):Builtin.divisionGoesByPylong x z=false:=by
 unfold Builtin.divisionGoesByPylong;have:(if (z==0)=true then 0 else z.natAbs.log2 / 30+1)<=300:=by
  split
  .exact Y7 _
  .rename_i q;have hz:z.natAbs≠0:=by intro e;exact q (by simpa using e)
   have:=(log2_lt hz).mpr h;exact(dJ [z.natAbs.log2 / (30:Nat),z.natAbs.log2,z.natAbs.log2 % (30:Nat)] [] 30 (.w (.p 1 .x)<|.c 300) [Gl (.p 1 .y)<|.c 64,Ge (.a (.m 30 .x) .z) .y] rfl this<|Nat.div_add_mod (z.natAbs.log2) 30)
 simp only;refine O (Y1 (by exact(λJs=>(Lf [if (z==(0:Int))=true then(0:Nat) else z.natAbs.log2 / (30:Nat)+(1:Nat)] [Gl .x<|.c 300,Gl (.p 1<|.c 300) .x] rfl this Js)))) ?_;rfl
theorem wF{a b:Int}{r:Rv}(h:wG a b=some r):qL a b=true/\ .fz (.int<|a*b)=r:=ed h
set_option tactic.hygienic true in
theorem Jc{o:Cr}{op:Operator}{d e:D}{r:Rv}(ho:op=(match o with|.add=>.Add|.sub=>.Sub|.mul=>.Mult|.fdiv=>.FloorDiv|.mod=>.Mod|.pow=>.Pow))(he:op2 o d e=some r)(ra:cU s.heap Z a d)(rb:cU s.heap Z b e):
  wpAny (model prog w) A (binaryOp op a b) (Op Z s r) E s:=by
 subst ho;cases o with
 |add=>
  cases d<;>first|exact am he|(cases e<;>first|exact am he|skip)
  .obtain⟨t,rfl⟩:=ra.int;obtain⟨u,rfl⟩:=rb.int;obtain rfl:=aE he;exact add_int .int
  .obtain⟨t,rfl,o1,z1⟩:=ra.str;obtain⟨u,rfl,o2,z2⟩:=rb.str;obtain⟨hz,rfl⟩:=ed he;exact SB.add (λt' k=>.valT<|.str _ t' (oj o1 o2) (by show(_++_:Array Nat).size<=_;rw[size_append];exact hz)) (by rw[<- bW];exact hz)
  .obtain⟨l,vs,n,rfl,hl,hn,R⟩:=ra.list;obtain⟨l',GA,n',rfl,cC,yc,R'⟩:=rb.list;obtain⟨hz,rfl⟩:=ed he;refine P.add_list hl cC ?_ (by rw[Zo,Zo,R.length,R'.length,<- bW];exact hz);rw[List.append_toArray];exact .newL (R.append R') (by rw[ZI,R.length,R'.length];exact hz)
  .obtain⟨l,vs,n,rfl,hl,hn,R,zl⟩:=ra.tuple;obtain⟨l',GA,n',rfl,cC,yc,R',T3⟩:=rb.tuple;obtain⟨hz,rfl⟩:=ed he;by_cases hv:vs=[]
   .subst hv;cases R;exact concat_meets ⟨_,hl,rfl⟩ ⟨_,cC,rfl⟩ noFill_tuple_add seq_tuple_add PySem.F.slot_tuple_add PySem.F.entry_tuple_add (PySem.F.args_tuple_add_2 _ _)
     (AutoSeq1.tuple___add___tuple_tuple_0 l _ n l' GA.toArray n' rfl) ⟨hl,cC,.val<|.tuple T3 cC yc R'⟩
   .by_cases hw:GA=[]
    .subst hw;cases R';rw[ZO];exact concat_meets ⟨_,hl,rfl⟩ ⟨_,cC,rfl⟩ noFill_tuple_add seq_tuple_add PySem.F.slot_tuple_add PySem.F.entry_tuple_add (PySem.F.args_tuple_add_2 _ _)
      (AutoSeq1.tuple___add___tuple_tuple_1 l vs.toArray n l' _ n' (by simpa using hv) rfl) ⟨hl,cC,.val<|.tuple zl hl hn R⟩
    .refine P.add_tuple hl cC (by simpa using hv) (by simpa using hw) ?_ (by rw[Zo,Zo,R.length,R'.length,<- bW];exact hz);rw[List.append_toArray];exact .newT (R.append R') (by rw[ZI,R.length,R'.length];exact hz)
 |sub=>
  cases d<;>first|exact am he|(cases e<;>first|exact am he|skip)
  obtain⟨t,rfl⟩:=ra.int;obtain⟨u,rfl⟩:=rb.int;obtain rfl:=aE he;exact sub_int .int
 |mul=>
  cases d<;>first|exact am he|(cases e<;>first|exact am he|skip)
  .obtain⟨t,rfl⟩:=ra.int;obtain⟨u,rfl⟩:=rb.int;obtain⟨hz,rfl⟩:=wF he;exact PyProof.Rows.mul_int .int<|tF hz
  .obtain⟨t,rfl,o1,z1⟩:=ra.str;obtain⟨u,rfl⟩:=rb.int;rename_i x n;obtain⟨hz,rfl⟩:=ed he;have hm:¬n<1->((n.toNat:Nat):Int)=n:=λq=>ZT (by exact(dJ [] [n] 1 (.le (.c 0)<|.v 0) [(1,.le (.c 1)<|.v 0)] rfl<|Int.not_lt.mp q));refine SB.mul ⟨by simp;exact⟨(dJ [] [n] 1 (.le (.g<|.c 9223372036854775808)<|.v 0) [(1,.le (.g<|.c 1000000000)<|.v 0)] rfl hz.1),(dJ [] [n] 1 (.le (.a (.v 0)<|.c 1)<|.c 9223372036854775808) [(1,.le (.v 0)<|.c 1000000000)] rfl (hz.2).1)⟩,λq aa=>?_,λq aa=>?_⟩ λt' k=>?_
   .have h2:(x.length:Int)*n<=16777216:=by
     have:((x.cps.size*n.toNat:Nat):Int)<=((16777216:Nat):Int):=ofNat_le.mpr hz.2.2;rw[Int.natCast_mul,hm q]at this;exact this
    have h3:(x.length:Int)<=(2 ^ 63-1) / n:=Int.le_ediv_of_mul_le (by exact(dJ [] [n] 1 (.le (.a (.c 0)<|.c 1)<|.v 0) [(1,.le (.c 1)<|.v 0)] rfl<|Int.not_lt.mp q)) (by omega);exact(λzR=>(lT [x.length] [((2:Int) ^ (63:Nat)-(1:Int)) / n] [(1,.le (.n<|.v 0)<|.v 0),(1,.le (.a (.v 0)<|.c 1)<|.n<|.v 0)] rfl h3 zR))
   .unfold Builtin.Str.tooLong;have h2:x.length*n.toNat<=16777216:=hz.2.2;rw[show sizeLine=16777216 from rfl];simp;exact h2
   .rw[CY];exact .valT<|.str _ t' (wb n o1) (by show(rep n x.cps.toList).toArray.size<=_;rw[Zo,oz,length_toList];exact hz.2.2)
  .obtain⟨l,vs,n,rfl,hl,hn,R,zl⟩:=ra.tuple;obtain⟨u,rfl⟩:=rb.int;rename_i x;obtain ⟨hz,rfl⟩:=ed he;refine wpAny_binaryOp_repeat_ref (T:="tuple") (U:="int") (by decide) ⟨_,hl,rfl⟩ (fun s'=>typeIs_int s' x u) j0 PySem.F.fills_int_mul PySem.F.slot_int_rmul oy PySem.F.slot_int_index.lookup
    (call_meets PySem.F.slot_int_rmul (typeIs_int s x u) PySem.F.entry_int_rmul (PySem.F.args_int_rmul_2 _ _) (qg x u l vs.toArray n) ⟨hl,rfl,⟨_,hl,rfl⟩,?_⟩)
   have h1:vs.length=1:=R.length.trans hz.1;have hk:x.toNat<=1000:=Int.toNat_le.mpr hz.2.2;have hc:¬(vs.toArray.isEmpty||x==1)=true:=by
    intro hc;rcases or_eq_true_iff.mp hc with q|q
    .have e:vs=[]:=by simpa using q
     rw[e]at h1;exact nomatch h1
    .rw[beq_iff_eq.mp q]at hz;exact absurd hz.2.1 (by decide)
   refine call_meets PySem.F.slot_tuple_mul ⟨_,hl,rfl⟩ PySem.F.entry_tuple_mul (PySem.F.args_tuple_mul_2 _ _) (jo l vs.toArray n x u (Int.lt_of_lt_of_le (by decide) hz.2.1) (Int.le_trans hz.2.2 (by decide)) hc (by rw[Zo,h1,Nat.one_mul];exact Zg hk (by decide))) ⟨hl,?_⟩;rw[C3];exact .newT (R.rep _) (by rw[List.length_flatten];simp;rw[h1,Nat.mul_one];exact Zg hk (by decide))
 |fdiv=>
  cases d<;>first|exact am he|(cases e<;>first|exact am he|skip)
  obtain⟨t,rfl⟩:=ra.int;obtain⟨u,rfl⟩:=rb.int;obtain⟨hz,rfl⟩:=ed he;exact floordiv_int hz.1 .int<|.inl<|zr hz.2
 |mod=>
  cases d<;>first|exact am he|(cases e<;>first|exact am he|skip)
  obtain⟨t,rfl⟩:=ra.int;obtain⟨u,rfl⟩:=rb.int;obtain⟨hz,rfl⟩:=PI he;exact mod_int hz .int
 |pow=>
  cases d<;>first|exact am he|(cases e<;>first|exact am he|skip)
  obtain⟨t,rfl⟩:=ra.int;obtain⟨u,rfl⟩:=rb.int;obtain⟨hz,rfl⟩:=ed he;exact pow_int_small hz.1 (by omega) hz.2.2 .int
theorem C9(x z:Str):(x==z)=(x.cps.toList==z.cps.toList):=by
 obtain⟨⟨l⟩⟩:=x;obtain⟨⟨k⟩⟩:=z;by_cases q:l=k
 .subst q;simp
 .have h1:((⟨⟨l⟩⟩:Str)==⟨⟨k⟩⟩)=false:=by
   rw[beq_eq_false_iff_ne];intro e;apply q;injection e with e;injection e
  refine O h1 ?_;symm;simpa using q
theorem jG{d e:D}{b:Bool}(h:eqD d e=some b):b=eqv d e/\(noDict d=true/\noDict e=true/\min d.depth e.depth<=64):=by
 have k:∀{a b:D}{x:Bool},(if fh a b then some (eqv a b) else none)=some x->x=eqv a b/\(noDict a=true/\noDict b=true/\min a.depth b.depth<=64):=λq=>by have Q:=ed q;refine O Q.2 ?_;have q:=Q.1;unfold fh at q;exact⟨rfl,by simpa [Z8,and_assoc] using q⟩
 cases d<;>first
  |exact k h
  |(cases e<;>first
   |exact k h
   |(exact Kr h;refine⟨?_,⟨rfl,rfl,by show _<=64;exact Zg (min_le_left _ _) (by refine O depth ?_;decide)⟩⟩;rw[eqv];done)
   |(refine O (aE h).symm ?_;refine⟨?_,⟨rfl,rfl,by show _<=64;exact Zg (min_le_left _ _) (by rw[depth];decide)⟩⟩;rw[eqv,C9];done))
theorem xR{x:D}:∀{X:VX}{b:Bool},ew x X=some b->b=X.any (λy=>eqv y x)/\noDicts X=true/\min (depthAll X) x.depth<=64:=by intro X b h;induction X generalizing b with
 |nil=>refine O (aE h).symm ?_;exact⟨rfl,rfl,by simp[depthAll]⟩
 |cons d X ih=>
  have h:(match eqD d x with
   |none=>none
   |some b=>match ew x X with
    |none=>none
    |some c=>some<|b||c)=some b:=h
  cases hc:eqD d x with
  |none=>rw[hc]at h;exact am h
  |some c=>rw[hc]at h;cases ri:ew x X with
   |none=>rw[ri]at h;exact am h
   |some c'=>rw[ri]at h;refine O (aE h).symm ?_;refine⟨by exact O any_cons<|O ((jG hc).1)<|O ((ih ri).1) rfl,by show(noDict d&&noDicts X)=true;rw[(jG hc).2.1,(ih ri).2.1];rfl,?_⟩;simp only[depthAll];exact(Nat.le_total (depth d)<|depthAll X).elim (λq=>by refine O (Nat.max_eq_right q) ?_;exact(ih ri).2.2) (λq=>by refine O (Nat.max_eq_left q) ?_;exact(jG hc).2.2.2)
theorem KN{d e:D}(he:eqD d e=some b')(ra:cU s.heap Z a d)(rb:cU s.heap Z b e)(hu:A.units+64<cLine):wpAny (model prog w) A (compareOp .Eq a b) (Op Z s<|.fz<|.bool b') E s:=by have q:=jG he;refine O q.1 ?_;obtain⟨as,qa⟩:=ra.reads q.2.1;obtain⟨bs,qb⟩:=rb.reads q.2.2.1;exact SeqAt.compareEq_reads qa qb (ra.canLay q.2.1) (rb.canLay q.2.2.1) (Ln [A.5,min (depth d)<|depth e,cLine] (.w (.p 1<|.a .x .y) .z) [Gl (.p 1<|.p 64 .x) .z,Gl .y<|.c 64] rfl hu q.2.2.2) .bool
theorem KL{d e:D}(he:eqD d e=some b')(ra:cU s.heap Z a d)(rb:cU s.heap Z b e)(hu:A.units+64<cLine):wpAny (model prog w) A (compareOp .NotEq a b) (Op Z s<|.fz<|.bool<|!b') E s:=by have q:=jG he;refine O q.1 ?_;obtain⟨as,qa⟩:=ra.reads q.2.1;obtain⟨bs,qb⟩:=rb.reads q.2.2.1;exact SeqAt.compareNe_reads qa qb (ra.canLay q.2.1) (rb.canLay q.2.2.1) (Ln [A.5,min (depth d)<|depth e,cLine] (.w (.p 1<|.a .x .y) .z) [Gl (.p 1<|.p 64 .x) .z,Gl .y<|.c 64] rfl hu q.2.2.2) .bool
theorem zw{M:VX}(h:noDicts M=true):noDict (.tuple M)=true:=h
theorem BU{M:VX}(h:canLay0 (.tuple M)=true):canLayAll0 M=true:=by rwa [canLay0]at h
theorem k9{u m:Nat}(hu:u+66<cLine)(h:m<=64):u+1+m<cLine:=by exact(Ln [u,m,cLine] (.w (.p 1<|.a (.p 1 .x) .y) .z) [Gl (.p 1<|.p 66 .x) .z,Gl .y<|.c 64] rfl hu h)
theorem u7{M:VX}(h:noDicts M=true):noDict (.list M)=true:=h
theorem pG{M:VX}(h:canLay0 (.list M)=true):canLayAll0 M=true:=by rwa [canLay0]at h
theorem tN{d:D}{M:VX}(he:(if noDict d=true then ew d M else none)=some b'):noDict d=true/\b'=M.any (λy=>eqv y d)/\noDicts M=true/\min (depthAll M) d.depth<=64:=by
 by_cases q:noDict d=true
 .rw[YX q]at he;exact⟨q,xR he⟩
 .rw[YY q]at he;exact am he
theorem KM{d e:D}(he:EG d e=some b')(ra:cU s.heap Z a d)(rb:cU s.heap Z b e)(hu:A.units+66<cLine):wpAny (model prog w) A (compareOp .In a b) (Op Z s<|.fz<|.bool b') E s:=by cases e with
 |tuple M=>obtain⟨hd,rfl,h1,h2⟩:=tN he;obtain⟨as,qa⟩:=ra.reads hd;obtain⟨bs,qb⟩:=rb.reads h1;exact SeqAt.in_tuple_reads qb qa (BU<|rb.canLay<|zw h1) (ra.canLay hd) (k9 hu h2) .bool
 |list M=>obtain⟨hd,rfl,h1,h2⟩:=tN he;obtain⟨as,qa⟩:=ra.reads hd;obtain⟨bs,qb⟩:=rb.reads h1;exact SeqAt.in_list_reads qb qa (pG<|rb.canLay<|u7 h1) (ra.canLay hd) (k9 hu h2) .bool
 |dict kvs=>cases d with
  |str x=>obtain rfl:=aE he;obtain⟨u,rfl,_,_⟩:=ra.str;obtain⟨l,kv,rfl,hd,hl,R⟩:=rb.dict;exact wpAny_in_of (knd:=strKind prog w) (strKind_is _ _ _ u) hd.1 hd.2.mapOf<|O R.isSome<|.valT<|.bool _
  |_=>exact am he
 |_=>exact am he
theorem xJ{d e:D}(he:MJ d e=some b')(ra:cU s.heap Z a d)(rb:cU s.heap Z b e)(hu:A.units+66<cLine):wpAny (model prog w) A (compareOp .NotIn a b) (Op Z s<|.fz<|.bool b') E s:=by cases e with
 |list M=>obtain⟨c,hc,rfl⟩:=Z9 he;obtain⟨hd,rfl,h1,h2⟩:=tN hc;obtain⟨as,qa⟩:=ra.reads hd;obtain⟨bs,qb⟩:=rb.reads h1;exact SeqAt.notIn_list_reads qb qa (pG<|rb.canLay<|u7 h1) (ra.canLay hd) (k9 hu h2) .bool
 |_=>exact am he
noncomputable def fk:Cm->CmpOp
 |.eq=>.Eq|.ne=>.NotEq|.lt=>.Lt|.le=>.LtE|.gt=>.Gt|.ge=>.GtE|.isin=>.In|.notin=>.NotIn
theorem jZ{o:Cm}{d e:D}(he:aI o d e=some b')(ra:cU s.heap Z a d)(rb:cU s.heap Z b e)(hu:A.units+66<cLine):
  wpAny (model prog w) A (compareOp (fk o) a b) (Op Z s<|.fz<|.bool b') E s:=by
 cases o with
 |eq=>exact KN he ra rb<|dJ [A.5,cLine] [] 1 (.nle (.a (.a (.v 0)<|.c 64)<|.c 1)<|.v 1) [(1,.nle (.a (.a (.v 0)<|.c 66)<|.c 1)<|.v 1)] rfl hu
 |ne=>obtain⟨c,hc,rfl⟩:=Z9 he;exact KL hc ra rb<|dJ [A.5,cLine] [] 1 (.nle (.a (.a (.v 0)<|.c 64)<|.c 1)<|.v 1) [(1,.nle (.a (.a (.v 0)<|.c 66)<|.c 1)<|.v 1)] rfl hu
 |lt=>
  cases d<;>first|exact am he|(cases e<;>first|exact am he|skip)
  obtain rfl:=aE he;obtain⟨t,rfl⟩:=ra.int;obtain⟨u,rfl⟩:=rb.int;exact lt_int .bool
 |le=>
  cases d<;>first|exact am he|(cases e<;>first|exact am he|skip)
  obtain rfl:=aE he;obtain⟨t,rfl⟩:=ra.int;obtain⟨u,rfl⟩:=rb.int;exact PyProof.Rows.le_int .bool
 |gt=>
  cases e<;>first|exact am he|(cases d<;>first|exact am he|skip)
  obtain rfl:=aE he;obtain⟨t,rfl⟩:=ra.int;obtain⟨u,rfl⟩:=rb.int;exact gt_int .bool
 |ge=>
  cases e<;>first|exact am he|(cases d<;>first|exact am he|skip)
  obtain rfl:=aE he;obtain⟨t,rfl⟩:=ra.int;obtain⟨u,rfl⟩:=rb.int;exact PyProof.Rows.ge_int .bool
 |isin=>exact KM he ra rb hu
 |notin=>exact xJ he ra rb hu
theorem lM{d:D}(ra:cU s.heap Z a d){Q:Bool->Shared->Prop}(h:∀tk,Q (tD d) {s with toks:=tk}):wpAny (model prog w) A (truthy a) Q E s:=by cases d with
 |none=>exact O ra.none (λaa ai br=>h s.toks)
 |bool b=>exact O ra.bool<|wpAny_truthy_bool<|h s.toks
 |int i=>obtain⟨t,rfl⟩:=ra.int;exact PyProof.Rows.truthy_int<|h s.toks
 |str x=>
  refine ak λG g=>?_;obtain⟨t,rfl,_,hz⟩:=ra.str;refine g ?_;refine P.truthy_str (λzS=>(Lf [x.length] [Gl .x<|.c 16777216,Gi (.c 9223372036854775808)<|.n .x] rfl hz zS)) ?_;have e:((x.length:Int) != 0)=tD (.str x):=by
   show _=(x.cps.size != 0)
   show((x.cps.size:Int) != 0)=_
   cases x.cps.size with
   |zero=>rfl
   |succ n=>rfl
  exact O e<|h _
 |list X=>
  obtain⟨l,vs,n,rfl,hl,hn,R⟩:=ra.list;refine wpAny_truthy_list hl.isList (by refine O Zo ?_;simp only[Sz]at hn;exact(Ln [vs.length] (.i (.p 1<|.n .x)<|.c 9223372036854775808) [Gl .x<|.c 16777216] rfl hn)) ?_;have e:(!vs.toArray.isEmpty)=tD (.list X):=by cases R<;>rfl
  exact O e<|h _
 |tuple X=>
  obtain⟨l,vs,n,rfl,hl,hn,R,_⟩:=ra.tuple;refine truthy_tuple ⟨_,hl,rfl,_,rfl⟩ (by refine O Zo ?_;simp only[Sz]at hn;exact(Ln [vs.length] (.i (.p 1<|.n .x)<|.c 9223372036854775808) [Gl .x<|.c 16777216] rfl hn)) ?_;have e:(!vs.toArray.isEmpty)=tD (.tuple X):=by cases R<;>rfl
  exact O e<|h _
 |dict kvs=>
  obtain⟨l,kv,rfl,hd,hn,R⟩:=ra.dict;refine wpAny_truthy_dict (knd:=strKind prog w) hd.1 hd.2 (by simp only[Sz]at hn;exact(Ln [kv.length] (.i (.p 1<|.n .x)<|.c 9223372036854775808) [Gl .x<|.c 16777216] rfl hn)) ?_;have e:(!kv.isEmpty)=tD (.dict kvs):=by cases R<;>rfl
  exact O e<|h _
theorem I8{d:D}(ra:cU s.heap Z a d):wpAny (model prog w) A (unaryOp .Not a) (Op Z s<|.fz<|.bool<|!tD d) E s:=
 not_of (lM ra λtk=>.valT<|.bool _)
theorem I9{d e:D}(he:DZ d=some e)(ra:cU s.heap Z a d):wpAny (model prog w) A (unaryOp .USub a) (Op Z s<|.fz e) E s:=by
 unfold DZ at he;refine ak λG g=>?_;split at he<;>cases he
 obtain⟨t,rfl⟩:=ra.int;exact g<|PyProof.Rows.neg_int .int
set_option tactic.hygienic true in
theorem seqIndex_of{M:List α}{i:Int}{x:α}(h:bf M i=some x):∃k,seqIndex? i M.length=some k/\M[k]?=some x:=by
 unfold bf at h;unfold seqIndex?;split at h
 .rename_i q;refine⟨i.toNat,?_,h⟩;simp only[(YY (by exact(λJr=>(lT [] [i] [Gi (.c 0) .x,Gi (.p 1 .x)<|.c 0] rfl q Jr))):(if i<0 then i+(M.length:Int) else i)=i)];exact O (YX (by simp;exact⟨q,(dJ [M.length,i.toNat] [i] 1 (.i (.p 1 .x)<|.n .x) [Gl (.p 1 .y) .x,Gk (.n .y) .x] rfl ((List.getElem?_eq_some_iff.mp h).1)<|ZT (a:=i) q)⟩)) rfl
 .exact am h
set_option tactic.hygienic true in
theorem j5{M:List α}{i:Int}{x:α}(h:bf M i=some x)(hz:M.length<=Sz): -(2 ^ 63:Int)<=i/\i<2 ^ 63:=by
 unfold bf at h;simp only[Sz]at hz;split at h
 .rename_i q;exact⟨Int.le_trans (by decide) q,Int.lt_trans ((Int.toNat_lt q).mp<|Zd (List.getElem?_eq_some_iff.mp h).1 hz) (by decide)⟩
 .exact am h
theorem te{d e r:D}(he:cW d e=some r)(ra:cU s.heap Z a d)(rb:cU s.heap Z b e):
  ∃T id,s.TypeIs a T∧typeLookup (.type T) "__getitem__"=pure (some (.builtin id))∧wpAny (model prog w) A (getItem a b) (Op Z s (.fz r)) E s:=by
 cases d with
 |list X=>cases e with
  |int i=>
   have he:bf X i=some r:=he;obtain⟨l,vs,n,rfl,hl,hn,R⟩:=ra.list;obtain⟨t,rfl⟩:=rb.int;refine⟨_,_,⟨_,hl,rfl⟩,slot_list_getitem.lookup,?_⟩;have hb:=j5 he (by refine O R.length.symm ?_;exact hn);unfold bf at he;split at he
   .exact aB (R.get he) λv z=>(wpAny_getItem_list hl.isList (by assumption) hb.2 (by simpa using z.1)<|.val z.2)
   .exact am he
  |_=>exact am he
 |tuple X=>cases e with
  |int i=>obtain⟨l,vs,n,rfl,hl,hn,R,zl⟩:=ra.tuple;obtain⟨t,rfl⟩:=rb.int;refine⟨_,_,⟨_,hl,rfl⟩,slot_tuple_getitem.lookup,?_⟩;have hb:=j5 he (by refine O R.length.symm ?_;exact hn);exact aB (seqIndex_of he) λk j=>(aB (R.get j.2) λv Q=>(P.getItem_tuple hl hb.1 hb.2 (by refine O Zo<|O R.length ?_;exact j.1) (by simpa using Q.1)<|.val Q.2))
  |_=>exact am he
 |str x=>cases e with
  |int i=>
   refine aB (Z9 he) λc J=>?_;obtain rfl:=J.2;obtain⟨t,rfl,ho,hz⟩:=ra.str;obtain⟨u,rfl⟩:=rb.int;have hb:=j5 J.1 (by refine O length_toList ?_;exact hz);refine aB (seqIndex_of J.1) λk U=>?_;have hk:=U.1;have hx:=U.2;have TB:Txt.charAt x i=some c:=by
    unfold Txt.charAt;refine O (show seqIndex? i x.length=some k from by rw[length_toList]at hk;exact hk) ?_;show x.cps[k]?=some c
    exact O (Array.getElem?_toList).symm hx
   refine⟨_,_,rfl,slot_str_getitem.lookup,SB.getItem (by show(!(decide (i < -(2 ^ 63:Int))||decide (i>=2 ^ 63)))=true;simp;exact⟨(hb.1),(hb.2)⟩) (by refine O TB ?_;rfl) ?_⟩;have e:Txt.item x i=⟨#[c]⟩:=by unfold Txt.item;refine O TB ?_;rfl
   refine O e ?_;refine .valT<|.str _ _ ?_ (by show 1<=16777216;exact(L0 [] (.c 1) (.c 16777216) rfl));unfold PyData.strOk at ho ⊢;rw[<- all_toList,ZQ]at ho;simpa using ho c (Zs hx)
  |_=>exact am he
 |dict kvs=>cases e with
  |str k=>
   have he:aR kvs k=some r:=he;obtain⟨l,kv,rfl,hd,hn,R⟩:=ra.dict;obtain⟨t,rfl,_,_⟩:=rb.str;refine ak λG g1=>?_;rcases R.get (k:=k) with⟨h1,h2⟩|⟨v,d',h1,h2,rv⟩
   .refine g1 ?_;have he:=h1▸he;exact am he
   .refine g1 ?_;rw[h1]at he;exact O (aE he).symm<|⟨_,_,hd.2.typeIs,slot_dict_getitem.lookup,wpAny_getItem_of (knd:=strKind prog w) (strKind_is _ _ k t) hd.2.mapOf h2<|.valT rv⟩
  |_=>exact am he
 |_=>exact am he
theorem Op.after{r:Rv}{v:Value}{h₁:Heap}(k:∀b o,s.heap.get? b=some o->h₁.get? b=some o)(p:Op Z {s with heap:=h₁} r v s'):Op Z s r v s':=by
 obtain⟨h',tk,rfl,k',q⟩:=p;refine⟨h',tk,rfl,λb o e=>k' b o<|k b o e,?_⟩;have old:∀a,h₁.get? a=none->s.heap.get? a=none:=λa e=>by cases q:s.heap.get? a with
  |none=>rfl
  |some o=>have e:=(k a o q)▸e;exact nomatch e
 cases q with
 |old r=>exact .old r
 |new e e' r=>exact .new (old _ e) e' r
 |KK e r=>exact .KK (old _ e) r
theorem y9{d l h:D}{r:Rv}{vl vu:Value}(he:yD d l h=some r)(ra:cU s.heap Z a d)(rl:cU s.heap Z vl l)(rh:cU s.heap Z vu h):
  ∃T id,({s with heap:=s.heap.push {cls:=.type "slice",data:=.fields #[vl,vu,.none]}} :Shared).TypeIs a T∧typeLookup (.type T) "__getitem__"=pure (some (.builtin id))∧
   wpAny (model prog w) A (getItem a (.ref s.heap.objs.size)) (Op Z s r) E {s with heap:=s.heap.push {cls:=.type "slice",data:=.fields #[vl,vu,.none]}}:=by
 obtain⟨M,k,rfl,rfl,rfl,h1,h2,rfl⟩:∃M, ∃k:Nat,d = .tuple M/\l = .int k/\h = .none/\1<=k/\k<=M.length/\ .fz (.tuple<|M.drop k)=r:=by cases d with
  |tuple X=>cases l with
   |int i=>cases h with
    |none=>obtain⟨q,rfl⟩:=ed he;have e:((i.toNat:Nat):Int)=i:=ZT<|Int.le_trans (by decide) q.1;exact⟨X,i.toNat,rfl,by rw[e],rfl,ofNat_le.mp<|e▸q.1,ofNat_le.mp<|e▸q.2,rfl⟩
    |_=>exact am he
   |_=>exact am he
  |_=>exact am he
 obtain ⟨l,vs,n,rfl,hl,hn,R,zl⟩:=ra.tuple;obtain ⟨t,rfl⟩:=rl.int;refine O rh.none ?_;refine ⟨_,_,⟨_,pK _ _ _ hl,rfl⟩,slot_tuple_getitem.lookup,PyProof.Rows.getItem_tuple_from (s:= {s with heap:=s.heap.push _}) (a:=k) ⟨_,IsT.push hl _,rfl,_,rfl⟩ (Heap.IsSliceOf.new ..) h1 (by refine O Zo ?_; rw [R.length]; exact h2) ?_ (by refine O Zo (O bW.symm ?_); exact hn)⟩;exact .after (h₁:=s.heap.push {cls:=.type "slice",data:=.fields #[.int k t,.none,.none]}) (pK _) (.newT ((R.drop k).mono (fun a o aa e=>pK _ a o e) fun aa z=>z) (by rw [List.length_drop]; exact Zg (Nat.sub_le _ _) hn))
end
noncomputable def cI:Ty->String
 | .tup=>"tuple" | .int=>"int" | .bool=>"bool" | .str=>"str"
section
variable {A:Around}{E:VR}{s:Shared}{Z:VQ}{a b:Value}
theorem Ja{d:D}{n:Nat}(he:D9 d=some n)(ra:cU s.heap Z a d) :wpAny (model prog w) A (call (.builtin "len") [a]) (Op Z s (.fz (.int n))) E s:=by
 cases d<;>first|exact am he|refine O (aE he).symm ?_
 .obtain⟨l,vs,k,rfl,hl,hn,R⟩:=ra.list;simp only[Sz]at hn;refine Calls.call_len_list hl.isList (by refine O Zo ?_;exact(Ln [vs.length] (.i (.p 1<|.n .x)<|.c 9223372036854775808) [Gl .x<|.c 16777216] rfl hn)) ?_;exact O Zo<|O R.length .int
 .obtain⟨l,vs,k,rfl,hl,hn,R,_⟩:=ra.tuple;simp only[Sz]at hn;refine P.len_tuple hl (by refine O Zo ?_;exact(λMU=>(Lf [vs.length] [Gl .x<|.c 16777216,Gi (.c 9223372036854775808)<|.n .x] rfl hn MU))) ?_;exact O Zo<|O R.length .int
theorem Jb{d:D}(t:Ty)(ra:cU s.heap Z a d) :wpAny (model prog w) A (call (.builtin "isinstance") [a,.type (cI t)]) (Op Z s (.fz (.bool (lX t d)))) E s:=by cases d with
 |none=>obtain rfl:=ra.none;cases t<;>first|exact IsiPair.NoneType_tuple (.valT<|.bool _)|exact IsiPair.NoneType_int (.valT<|.bool _)|exact IsiPair.NoneType_bool (.valT<|.bool _)|exact IsiPair.NoneType_str (.valT<|.bool _)|exact IsiPair.NoneType_list<|.valT<|.bool _
 |bool b=>obtain rfl:=ra.bool;cases t<;>first|exact IsiPair.bool_tuple (.valT<|.bool _)|exact IsiPair.bool_int .bool|exact IsiPair.bool_bool .bool|exact IsiPair.bool_str (.valT<|.bool _)|exact IsiPair.bool_list<|.valT<|.bool _
 |int i=>obtain⟨u,rfl⟩:=ra.int;cases t<;>first|exact IsiPair.int_tuple (.valT<|.bool _)|exact IsiPair.int_int .bool|exact IsiPair.int_bool (.valT<|.bool _)|exact IsiPair.int_str (.valT<|.bool _)|exact IsiPair.int_list<|.valT<|.bool _
 |str x=>obtain⟨u,rfl,_⟩:=ra.str;cases t<;>first|exact IsiPair.str_tuple (.valT<|.bool _)|exact IsiPair.str_int (.valT<|.bool _)|exact IsiPair.str_bool (.valT<|.bool _)|exact IsiPair.str_str .bool|exact IsiPair.str_list<|.valT<|.bool _
 |list X=>obtain⟨l,vs,k,rfl,hl,hn,R⟩:=ra.list;cases t<;>first|exact IsiPair.list_tuple hl rfl (.valT<|.bool _)|exact IsiPair.list_int hl rfl (.valT<|.bool _)|exact IsiPair.list_bool hl rfl (.valT<|.bool _)|exact IsiPair.list_str hl rfl (.valT<|.bool _)|exact IsiPair.list_list hl rfl .bool
 |tuple X=>obtain⟨l,vs,k,rfl,hl,hn,R,_⟩:=ra.tuple;cases t<;>first|exact IsiPair.tuple_tuple hl rfl .bool|exact IsiPair.tuple_int hl rfl (.valT<|.bool _)|exact IsiPair.tuple_bool hl rfl (.valT<|.bool _)|exact IsiPair.tuple_str hl rfl (.valT<|.bool _)|exact IsiPair.tuple_list hl rfl<|.valT<|.bool _
 |dict kvs=>obtain⟨l,kv,rfl,hd,hn,R⟩:=ra.dict;obtain⟨o,_,_,ho,hc,_⟩:=hd.2;cases t<;>first|exact IsiPair.dict_tuple ho hc.1 (.valT<|.bool _)|exact IsiPair.dict_int ho hc.1 (.valT<|.bool _)|exact IsiPair.dict_bool ho hc.1 (.valT<|.bool _)|exact IsiPair.dict_str ho hc.1 (.valT<|.bool _)|exact IsiPair.dict_list ho hc.1<|.valT<|.bool _
theorem Je{i:Int}(ra:cU s.heap Z a (.int i)) :wpAny (model prog w) A (call (.builtin "abs") [a]) (Op Z s (.fz (.int i.natAbs))) E s:=by
 obtain⟨u,rfl⟩:=ra.int;refine call_abs_int λu tk=>?_;have e:(if i<0 then -i else i)=((i.natAbs:Nat):Int):=by split<;>(first|exact(ZX (dJ [i.natAbs] [i] 1 (.i (.g .x)<|.n .x) [Gk (.n .x)<|.g .x] rfl<|Int.ofNat_natAbs_of_nonpos (a:=i)<|Li [i] (.i .x<|.c 0) [Gi (.p 1 .x)<|.c 0] rfl ‹i<(0:Int)›)<|dJ [i.natAbs] [i] 1 (.i (.n .x)<|.g .x) [Gj (.n .x)<|.g .x] rfl<|Int.ofNat_natAbs_of_nonpos (a:=i)<|Li [i] (.i .x<|.c 0) [Gi (.p 1 .x)<|.c 0] rfl ‹i<(0:Int)›)|exact(ZX (dJ [i.natAbs] [i] 1 (.i .x<|.n .x) [Gk (.n .x) .x] rfl<|ZW (a:=i)<|Int.not_lt.mp ‹¬i<(0:Int)›)<|dJ [i.natAbs] [i] 1 (.i (.n .x) .x) [Gj (.n .x) .x] rfl<|ZW (a:=i)<|Int.not_lt.mp ‹¬i<(0:Int)›))
 exact O e .int
theorem DS{b':Bool}(ra:cU s.heap Z a (.bool b')) :wpAny (model prog w) A (call (.type "int") [a]) (Op Z s (.fz (.int (if b' then 1 else 0)))) E s:=by exact O ra.bool (call_int_bool .int)
theorem wA{X:VX}(ra:cU s.heap Z a (.list X)) :wpAny (model prog w) A (call (.type "tuple") [a]) (Op Z s (.fz (.tuple X))) E s:=by obtain⟨l,vs,k,rfl,hl,hn,R⟩:=ra.list;refine call_tuple_list hl.isList (λh' hk=>?_) (by refine O Zo (O bW.symm ?_);exact hn);exact .after (h₁:=h') hk (.newT (R.mono (λa o aa e=>hk a o e) λaa z=>z) hn)
theorem wz{X:VX}(ra:cU s.heap Z a (.tuple X)) :wpAny (model prog w) A (call (.type "tuple") [a]) (Op Z s (.fz (.tuple X))) E s:=by obtain⟨l,vs,k,rfl,hl,hn,R,zl⟩:=ra.tuple;exact call_tuple_same ⟨_,hl,rfl,_,rfl⟩ (.val (.tuple zl hl hn R))
theorem AA{x:D}:∀{M:VX}{n:Nat},fS x M=some n->(∃y,M[n]?=some y/\eqv y x=true)/\ ∀(m:Nat)(y:D),m<n->M[m]?=some y->eqv y x=false:=by intro M;induction M with
 |nil=>intro n h;exact am h
 |cons z M ih=>intro n h;have h:(if eqv z x=true then some 0 else(fS x M).map (· + 1))=some n:=h;cases q:eqv z x with
  |true=>rw[q,YX rfl]at h;obtain rfl:=aE h;exact⟨⟨z,rfl,q⟩,λm aa hm=>(not_lt_zero _ hm).elim⟩
  |false=>rw[q,YY Z7]at h;obtain⟨k,hk,rfl⟩:=Z9 h;obtain⟨h1,h2⟩:=ih hk;refine⟨h1,λm y hm e=>?_⟩;cases m with
   |zero=>obtain rfl:=aE e;exact q
   |succ m=>exact h2 m y (lt_of_succ_lt_succ hm) e
theorem ze{M:VX}{d:D}{r:Rv}(he:jm .index [.list M,d]=some r)(ra:cU s.heap Z a (.list M))(rb:cU s.heap Z b d)(hu:A.units+66 < cLine) :wpAny (model prog w) A (call (.builtin "list.index") [a,b]) (Op Z s r) E s:=by
 obtain⟨q,n,hn,rfl⟩:fh (.list M) d=true/\ ∃n:Nat,fS d M=some n/\ .fz (.int n)=r:=by
  have he:(if fh (.list M) d then(fS d M).map λ(n:Nat)=>Rv.fz (.int n) else none)=some r:=he;by_cases q:fh (.list M) d=true
  .rw[YX q]at he;exact⟨q,Z9 he⟩
  .rw[YY q]at he;exact am he
 obtain⟨⟨q1,q2⟩,q3⟩:=(and_eq_true_iff.mp q).imp_left and_eq_true_iff.mp;have cl:=pG<|ra.canLay q1;obtain⟨l,vs,k,rfl,hl,hs,R⟩:=ra.list;obtain⟨as,qa⟩:=R.reads q1;obtain⟨bs,qb⟩:=rb.reads q2;obtain⟨⟨y,h1,h2⟩,h3⟩:=AA hn;have mp:=SeqAt.readsAll_map M _ _ cl qa;have at':∀(m:Nat)(hm:m<vs.toArray.size)(y:D),M[m]?=some y->SeqAt.readOf s.heap vs.toArray[m]=y:=λm hm y e=>by have:=Y2 (·[m]?) mp;simp only[ZJ]at this;rw[e,ZK (by simpa using hm)]at this;exact aE this
 have ln:M.length=vs.toArray.size:=by rw[Zo,R.length]
 have hj:n<vs.toArray.size:=ln▸(List.getElem?_eq_some_iff.mp h1).1;refine call_meets PySem.F.slot_list_index ⟨_,hl,rfl⟩ PySem.F.entry_list_index (PySem.F.args_list_index_2 _ _)
  (SeqAt.list_indexAt l vs.toArray k none #[] b (λy=>eqv (SeqAt.readOf s.heap y) d) n hj (Int.lt_of_lt_of_le (ofNat_lt.mpr hj)<|Int.le_trans (ofNat_le.mpr (by rw[Zo];exact hs)) (by decide)) ?_ ?_)
  ⟨hl,SeqAt.items_eqAt (vs:=vs.toArray) qa qb cl (rb.canLay q2)<|k9 hu ?_,.int⟩
 .show eqv (SeqAt.readOf s.heap vs.toArray[n]) d=true
  rw[at' n hj y h1];exact h2
 .intro m hm lt;show eqv (SeqAt.readOf s.heap vs.toArray[m]) d=false
  rw[at' m hm _<|ZK<|ln▸hm];exact h3 m _ lt<|ZK<|ln▸hm
 .exact Zg (Nat.le_min.mpr ⟨Zg (min_le_left _ _)<|le_succ _,Nat.min_le_right _ _⟩) (YW q3)
theorem I7{n:Nat}{r:Rv}(he:jm .str [.int (.ofNat n)]=some r)(ra:cU s.heap Z a (.int (.ofNat n))) :wpAny (model prog w) A (call (.type "str") [a]) (Op Z s r) E s:=by
 obtain⟨t,rfl⟩:=ra.int;obtain⟨h,rfl⟩:=ed (r:=r) (show(if n<10 ^ 18/\(gO n).length<=20 then some (Rv.fz<|.str ⟨(gO n).toArray⟩) else none)=some r from he);refine PySem.P.str_of_int ?_ ?_
 .show n.log2<_
  by_cases q:n=0
  .rw[q];decide
  .exact Zd ((log2_lt q).mpr<|Zd h.1 (show 10 ^ 18<=2 ^ 60 by decide)) (by decide)
 .have e:(Str.ofString<|toString<|Int.ofNat n)=⟨(gO n).toArray⟩:=by
   have:=PySem.W.KIN.signs_num n;generalize Str.ofString (toString<|Int.ofNat n)=x at this;obtain⟨⟨l⟩⟩:=x;exact Y2 (λl=>(⟨⟨l⟩⟩:Str)) this
  refine O e<|.valT<|.str _ _ ?_ (by show(gO n).length<=_;exact Zg h.2 (by decide));unfold PyData.strOk;rw[<- all_toList,ZQ];intro c hc;obtain⟨ch,_,rfl⟩:=mem_map.mp hc;exact Y0 (by(have:=ch.valid;rcases this with h|h;· exact Nat.lt_trans h (by decide));· exact h.2)
theorem zc{X:VX}(ra:cU s.heap Z a (.tuple X)) :wpAny (model prog w) A (call (.type "list") [a]) (Op Z s (.KK (.list X))) E s:=by obtain⟨l,vs,k,rfl,hl,hn,R,_⟩:=ra.tuple;exact call_list_seq l (.inr rfl) hl rfl rfl (λh' c' hk hD=>⟨h',s.toks,rfl,hk,.KK (w8 _) (.list hD hn (R.mono (λa o aa e=>hk a o e) λaa z=>z))⟩) (by refine O Zo (O bW.symm ?_);exact hn)
theorem qk:∀{X:VX}{k:Int}{r:D},sR k X=some r-> ∃f:Nat->Int,(∀i d,X[i]?=some d->d=int (f i))/\r=int (k+preSum f X.length)
 |[],k,r,h=>by exact O (aE h).symm<|⟨λaa=>0,λi d e=>by simp at e,by simp[preSum]⟩
 |.int b::X,k,r,h=>by
  obtain⟨f,h1,rfl⟩:=qk (X:=X) h;refine⟨λi=>match i with|0=>b|i+1=>f i,λi d e=>?_,?_⟩
  .cases i with
   |zero=>simp at e;exact e.symm
   |succ i=>exact h1 i d e
  .have:∀n,preSum (λi=>match i with|0=>b|i+1=>f i) (n+1)=b+preSum f n:=by
    intro n;induction n with
    |zero=>simp[preSum]
    |succ n ih=>rw[preSum,ih,preSum];simp only;exact(ZX (Li [b,preSum f n,f n] (.i (.a (.a .x .y) .z)<|.a .x<|.a .y .z) [] rfl)<|Li [b,preSum f n,f n] (.i (.a .x<|.a .y .z)<|.a (.a .x .y) .z) [] rfl)
   refine O ZH ?_;rw[this];congr 1;exact(ZX (Li [k,b,preSum f X.length] (.i (.a (.a .x .y) .z)<|.a .x<|.a .y .z) [] rfl)<|Li [k,b,preSum f X.length] (.i (.a .x<|.a .y .z)<|.a (.a .x .y) .z) [] rfl)
 |.none::_,_,_,h=>by exact am h
 |.bool _::_,_,_,h=>by exact am h
 |.str _::_,_,_,h=>by exact am h
 |.list _::_,_,_,h=>by exact am h
 |.tuple _::_,_,_,h=>by exact am h
 |.dict _::_,_,_,h=>by exact am h
theorem I6{X:VX}{r:D}(hh:A.handled=none)(he:sR 0 X=some r)(ra:cU s.heap Z a (.list X)) :wpAny (model prog w) A (call (.builtin "sum") [a]) (Op Z s (.fz r)) E s:=by
 obtain⟨l,vs,k,rfl,hl,hn,R⟩:=ra.list;obtain⟨f,hf,rfl⟩:=qk he;refine call_sum_walkG<|wpAny_pyIter_list hl.isList ?_;refine⟨_,_,_,_,_,_,f,rfl,Walks.list (A:=A.in1) hh s.heap.objs.size l (Zc<|ZZ hl) vs.toArray,⟨⟨_,Z1 _ rfl,rfl,rfl⟩,(IsL.push hl _).isList⟩,λb hb=>?_,λi v hv=>?_,λh' tk t' hk=>?_⟩
 .rw[Heap.size_push];simp at hb;rcases hb with rfl|rfl
  .exact lt_succ_self _
  .exact Nat.lt_succ_of_lt (ZZ hl)
 .have wX:vs[i]?=some v:=by simpa using hv
  refine aB (R.getV wX) λd Q=>?_
  have:=hf i d Q.1;subst this;obtain⟨t,e⟩:=(bE.dat Q.2).int;exact⟨t,e⟩
 .have e:(0:Int)+preSum f X.length=preSum f vs.toArray.size:=by exact O Zo (O R.length<|ZX (Li [preSum f X.length] (.i (.a (.c 0) .x) .x) [] rfl)<|Li [preSum f X.length] (.i .x<|.a (.c 0) .x) [] rfl)
  refine O e ?_;refine⟨h',tk,rfl,λb o q=>hk b o (λm=>?_)<|pK _ b o q,.old<|.int _ _⟩;simp at m;exact absurd (ZZ q) (by refine O m ?_;exact Zf _)
theorem nV:∀{M:VX}{bs:List Bool},gG M=some bs->M=bs.map PyData.bool
 |[],_,h=>by obtain rfl:=aE h;rfl
 |.bool b::M,bs,h=>by obtain⟨r,hr,rfl⟩:=Z9 h;refine O (nV hr) ?_;rfl
 |.int _::_,_,h=>by exact am h
 |.none::_,_,h=>by exact am h
 |.str _::_,_,h=>by exact am h
 |.list _::_,_,h=>by exact am h
 |.tuple _::_,_,h=>by exact am h
 |.dict _::_,_,h=>by exact am h
theorem mq(bs:List Bool):noDicts (bs.map PyData.bool)=true/\(bs.map PyData.bool).all PySem.Spec.Shape.bool.has=true:=by induction bs with
 |nil=>exact⟨rfl,rfl⟩
 |cons b bs ih=>exact⟨ih.1,by refine O Zz<|O all_cons<|O ih.2 ?_;rfl⟩
theorem rN(b:Bool):∀bs:List Bool,PySem.Spec.countIn (.bool b) (bs.map PyData.bool)=((bs.count b:Nat):Int):=by intro bs;induction bs with
 |nil=>exact rfl
 |cons x bs ih=>
  refine O Zz<|O count_cons ?_;show(if PySem.Spec.same (.bool x) (.bool b) then 1 else 0)+PySem.Spec.countIn (.bool b) (bs.map PyData.bool)=_
  refine O ih<|O (show PySem.Spec.same (.bool x) (.bool b)=(x==b) from rfl) ?_;cases x<;>cases b<;>simp<;>(first|exact(Le [List.count false bs] (.j (.a (.c 1)<|.n .x)<|.p 1<|.n .x) [] rfl)|exact(Le [List.count true bs] (.j (.a (.c 1)<|.n .x)<|.p 1<|.n .x) [] rfl))
theorem zf{M:VX}{bs:List Bool}{k:Bool}(he:gG M=some bs)(ra:cU s.heap Z a (.list M))(rb:cU s.heap Z b (.bool k)):
  wpAny (model prog w) A (call (.builtin "list.count") [a,b]) (Op Z s (.fz (.int (bs.count k:Nat)))) E s:=by
 obtain rfl:=nV he;have Q:=ra.reads (mq bs).1;obtain⟨l,vs,n,rfl,hl,hn,R⟩:=ra.list;refine O rb.bool ?_;obtain⟨VL,q'⟩:=R.reads (mq bs).1;refine count_list_bools hl.isList q' (mq bs).2 ?_;rw[rN];exact .int
end
end Mv
namespace Mv
open PySem PyProof.Rows
section
variable {prog:Program}{w:World}{A:Around}{E:VR}{s:Shared}
theorem Dc{α:Type}{Q:α→Shared→Prop}(hh:A.handled=none)(hE:∀h' e,(∀b o,s.heap.get? b=some o→h'.get? b=some o)→(∃o,h'.get? e=some o∧o.cls=.type "StopIteration")→E (.ref e) {s with heap:=h'}) :wpAny (model prog w) A (Builtin.SmallTypes.stopIteration:Sem α) Q E s:=by
 show wpAny _ _ (newExc (.type "StopIteration") [] >>= _) _ _ _
 refine YV ?_;simp only[newExc,newTuple];refine YV<|wpAny_newObj_type ?_ (by size_fits);refine YV (m:=firstArgMember _ _)<|wpAny_of_eq (a:=Value.none) (by first|rfl|(simp only[firstArgMember];rfl)) ?_;refine wpAny_newObj_type ?_ (by size_fits);simp only[raiseNew];refine YV<|wpAny_handled ?_;rw[hh];exact YV<|YR<|wpAny_throw<|hE _ _ (λb o e=>Z2 _<|Z2 _ e) ⟨_,Z1 _ rfl,rfl⟩
theorem tt{it t:Addr}{ac:Array Value}{x:Value}{Q:VR}(fU:s.heap.IsTupleIter it t i)(ht:s.heap.IsTuple t ac)(hx:ac[i]?=some x)
  (hQ:∀h',h'.IsTupleIter it t (i+1)->Heap.SameBut it s.heap h'->Q x {s with heap:=h'}):wpAny (model prog w) A (Builtin.SmallTypes.nextOf<|.ref it) Q E s:=by
 obtain ⟨o,q⟩:=id fU;obtain ⟨ol,Q2,_,nl,GZ⟩:=ht;unfold Builtin.SmallTypes.nextOf;refine YV (wpAny_callSpecial?_slot (name:=Str.ofString "__next__") fU.typeIs F.slot_tuple_iterator_next (wpAny_call_entry F.slot_tuple_iterator_next fU.typeIs F.entry_tuple_iterator_next ?_ (F.args_tuple_iterator_next_1 _)));show wpAny _ _ (field (.ref it) 0 >>= _) _ _ s
 refine YV<|YU q.1 q.2.2 (x:=.ref t) rfl ?_;refine YT rfl ?_;refine YV<|YU q.1 q.2.2 (x:=.int i 0) rfl ?_;refine YV<|wpAny_seqItems Q2 GZ ?_;simp only[ZU,hx];refine YV<|wpAny_setField q.1 q.2.2 (by simp)<|YR ⟨x,rfl,YR<|hQ _ ?_<|Heap.SameBut.update ..⟩;exact⟨_,Heap.get?_update_self _ q.1<|Obj.isFreed_of_fields<|Y6 q.2.2 _,(Obj.cls_mapFields ..).trans q.2.1,by rw[Y6 q.2.2];simp[rawInt]⟩
theorem qI{it t:Addr}{ac:Array Value}{Q:VR}(hh:A.handled=none)(fU:s.heap.IsTupleIter it t i)(ht:s.heap.IsTuple t ac)(hx:ac[i]?=none)
  (hE:∀h' e,Heap.ExtBut it s.heap h'→(∃o,h'.get? e=some o∧o.cls=.type "StopIteration")→E (.ref e) {s with heap:=h'}) :wpAny (model prog w) A (Builtin.SmallTypes.nextOf (.ref it)) Q E s:=by
 obtain ⟨o,ho,hc,hd⟩:=id fU;obtain ⟨ol,Q2,_,nl,GZ⟩:=ht;unfold Builtin.SmallTypes.nextOf;refine YV (wpAny_callSpecial?_slot (name:=Str.ofString "__next__") fU.typeIs F.slot_tuple_iterator_next (wpAny_call_entry F.slot_tuple_iterator_next fU.typeIs F.entry_tuple_iterator_next ?_ (F.args_tuple_iterator_next_1 _)));show wpAny _ _ (field (.ref it) 0 >>= _) _ _ s
 refine YV<|YU ho hd (x:=.ref t) rfl ?_;show wpAny _ _ (if (Value.ref t==Value.none)=true then _ else _) _ _ s
 refine YT rfl ?_;show wpAny _ _ (field (.ref it) 1 >>= _) _ _ s
 refine YV<|YU ho hd (x:=.int i 0) rfl ?_;show wpAny _ _ (seqItems? (.ref t) >>= _) _ _ s
 refine YV<|wpAny_seqItems Q2 GZ ?_;simp only[ZU,hx];exact YV<|wpAny_rule<|YV<|wpAny_setField ho hd (by simp)<|Dc hh λh' e k x=>hE h' e (λb o n q=>k b o<|(Heap.SameBut.update ..).extBut b o n q) x
def r8(h:Heap)(it l:Addr)(M:Array Value)(k:Nat):Bool->Prop
 |false=>h.IsTupleIter it l k/\h.IsTuple l M
 |true=>h.IsListIter it l k/\h.IsList l M
variable {h h':Heap}{it l z TI TO i1 i2 l1 l2:Addr}{M ys:Array Value}{k:Nat}{v x y:Value}{b:Bool}
theorem r8.at(x:r8 h it l M k b)(q1:∀o,h.get? it=some o->h'.get? it=some o)(q2:∀o,h.get? l=some o->h'.get? l=some o):r8 h' it l M k b:=by cases b with
 |false=>obtain⟨⟨o,e,r⟩,o',e',r'⟩:=x;exact⟨⟨o,q1 o e,r⟩,o',q2 o' e',r'⟩
 |true=>obtain⟨⟨o,e,r⟩,o',e',r'⟩:=x;exact⟨⟨o,q1 o e,r⟩,o',q2 o' e',r'⟩
theorem DY{Q:VR}(x:r8 s.heap it l M k b)(de:l≠it)(hx:M[k]?=some v)
  (hQ:∀h',r8 h' it l M (k+1) b->Heap.SameBut it s.heap h'->Q v {s with heap:=h'}):wpAny (model prog w) A (Builtin.SmallTypes.nextOf<|.ref it) Q E s:=by
 cases b with
 |false=>exact tt x.1 x.2 hx λh' a sb=>hQ h' ⟨a,x.2.extBut sb.extBut de⟩ sb
 |true=>exact wpAny_nextOf_list_item x.1 x.2 hx λh' a sb=>hQ h' ⟨a,x.2.extBut sb.extBut de⟩ sb
theorem zt{Q:VR}(hh:A.handled=none)(x:r8 s.heap it l M k b)(hx:M[k]?=none)
  (hE:∀h' e,Heap.ExtBut it s.heap h'→(∃o,h'.get? e=some o∧o.cls=.type "StopIteration")→E (.ref e) {s with heap:=h'}) :wpAny (model prog w) A (Builtin.SmallTypes.nextOf (.ref it)) Q E s:=by
 cases b with
 |false=>exact qI hh x.1 x.2 hx hE
 |true=>exact wpAny_nextOf_list_end hh x.1 x.2 hx hE
noncomputable abbrev zO(f0 f1:Value)(TI TO:Addr) :Obj:= {cls:=.type "zip",dict:=none,data:=.fields #[f0,f1,.bool false,.ref TI,.ref TO],slots:=#[]}
inductive ZF(h:Heap):Value->Value->Prop
 |new:ZF h .none (.bool false)
 |LT {T:Addr} {o:Obj} {c:Bool}:h.get? T=some o->ZF h (rawInt T) (.bool c)
inductive ms(z TI TO i1 i2 l1 l2:Addr)(M ys:Array Value)(k:Nat)(b:Bool)(h:Heap):Prop
 |mk (f0 f1 u v:Value):h.get? z=some (zO f0 f1 TI TO)->ZF h f0 f1->IsPair h TI (.ref i1) (.ref i2)->IsPair h TO u v->r8 h i1 l1 M k b->r8 h i2 l2 ys k false->ms z TI TO i1 i2 l1 l2 M ys k b h
theorem ms.at(D:ms z TI TO i1 i2 l1 l2 M ys k b h)(q:∀c o,h.get? c=some o->h'.get? c=some o):ms z TI TO i1 i2 l1 l2 M ys k b h':=by obtain⟨f0,f1,u,v,hz,hf,J9,J8,h1,h2⟩:=D;refine⟨f0,f1,u,v,q _ _ hz,?_,q _ _ J9,q _ _ J8,h1.at (q _)<|q _,h2.at (q _)<|q _⟩;cases hf with
 |new=>exact .new
 |LT e=>exact .LT<|q _ _ e
theorem ms.ty{s:Shared}(D:ms z TI TO i1 i2 l1 l2 M ys k b s.heap) :s.TypeIs (.ref z) "zip":=by obtain⟨f0,f1,u,v,hz,_⟩:=D;exact⟨_,hz,rfl⟩
theorem Hj{T z:Addr}(q:T=z)(e:∃o,h.get? z=some o):∃o,h.get? T=some o:=q▸e
theorem r8.live(x:r8 h it l M k b):∃o,h.get? it=some o:=by cases b with
 |false=>obtain⟨⟨o,e,_⟩,_⟩:=x;exact⟨o,e⟩
 |true=>obtain⟨⟨o,e,_⟩,_⟩:=x;exact⟨o,e⟩
theorem ms.but{d:Addr}(D:ms z TI TO i1 i2 l1 l2 M ys k b h)(nd:d∉ [z,TI,TO,i1,i2,l1,l2])(q:∀c o,c≠d->h.get? c=some o->h'.get? c=some o)(hd:∃o,h'.get? d=some o):ms z TI TO i1 i2 l1 l2 M ys k b h':=by obtain⟨f0,f1,u,v,hz,hf,J9,J8,h1,h2⟩:=D;have n:∀c∈ [z,TI,TO,i1,i2,l1,l2], ∀o,h.get? c=some o->h'.get? c=some o:=λc hc o=>q c o λe=>nd<|e▸hc;refine⟨f0,f1,u,v,n _ (by simp) _ hz,?_,n _ (by simp) _ J9,n _ (by simp) _ J8,h1.at (n _ (by simp))<|n _ (by simp),h2.at (n _ (by simp))<|n _ (by simp)⟩;cases hf with
 |new=>exact .new
 |@LT T o c e=>
  by_cases g:T=d
  .obtain⟨o',hd⟩:=Hj g hd;exact .LT hd
  .exact .LT (q _ _ g e)
theorem CL{f0 f1:Value}{Q:Bool->Shared->Prop}(hz:s.heap.get? z=some (zO f0 f1 TI TO))(hf:ZF s.heap f0 f1)
  (hn:f0 = .none->f1 = .bool false->Q true s) (ho:∀h' (T:Addr) o,f0=rawInt T->h'.get? z=some (zO f0 (.bool true) TI TO)->s.heap.get? T=some o->(f1 = .bool true/\h'=s.heap\/f1 = .bool false/\Heap.SameBut z s.heap h')->Q false {s with heap:=h'}):
  wpAny (model prog w) A (Builtin.SmallTypes.ownedTupleIsFree<|.ref z) Q E s:=by
 unfold Builtin.SmallTypes.ownedTupleIsFree;cases hf with
 |new=>exact YV<|YU hz rfl (x:=.none) rfl<|YR<|hn rfl rfl
 |@LT T o c e=>
  refine YV<|YU hz rfl (x:=rawInt T) rfl ?_;have al:∀{Q:Option Obj->Shared->Prop},Q (some o) s->wpAny (model prog w) A (loadIfAlive T) Q E s:=fun {Q} hq=>by
   have h':Q (s.heap.get? T) s:=by rw[e];exact hq
   exact λaa ai br=>h'
  refine YV<|al ?_;refine YT rfl ?_;refine YV<|YU hz rfl (x:=.bool c) rfl ?_;cases c with
  |true=>refine YT rfl ?_;exact YR<|ho s.heap T o rfl hz e<|.inl ⟨rfl,rfl⟩
  |false=>refine wpAny_ite_true rfl ?_;exact YV<|wpAny_setField_rec hz (by simp) λh' a sb=>YR<|ho h' T o rfl a e<|.inr ⟨rfl,sb⟩
theorem jw{Q:VR}(hh:A.handled=none)(x:r8 s.heap it l M k b)(de:l≠it)(hQ:∀v h',M[k]?=some v->r8 h' it l M (k+1) b->Heap.SameBut it s.heap h'->Q v {s with heap:=h'})
  (hE:M[k]?=none→ ∀h' e,Heap.ExtBut it s.heap h'→(∃o,h'.get? e=some o∧o.cls=.type "StopIteration")→E (.ref e) {s with heap:=h'}) :wpAny (model prog w) A (Builtin.SmallTypes.nextOf (.ref it)) Q E s:=by
 cases q:M[k]? with
 |none=>exact zt hh x q<|hE q
 |some v=>exact DY x de q λh' a sb=>hQ v h' q a sb
theorem HQ{Q:VR}(hh:A.handled=none)(D:ZipApart z TI TO i1 i2 l1 l2)(S:ms z TI TO i1 i2 l1 l2 M ys k b s.heap)
  (hQ:∀x y,M[k]?=some x->ys[k]?=some y-> ∀h' T,s.heap.get? T=none->ms z TI TO i1 i2 l1 l2 M ys (k+1) b h'->IsPair h' T x y->
   (∀c o,c≠z->c≠TO->c≠i1->c≠i2->s.heap.get? c=some o->h'.get? c=some o)->(IsZip s.heap z TI TO .none->IsZip h' z TI TO (rawInt T))->Q (.ref T) {s with heap:=h'})
  (hE:(M[k]?=none∨ys[k]?=none)→ ∀h' e,(∀c o,c≠z→c≠TO→c≠i1→c≠i2→s.heap.get? c=some o→h'.get? c=some o)→(∃o,h'.get? e=some o∧o.cls=.type "StopIteration")→E (.ref e) {s with heap:=h'}) :
  wpAny (model prog w) A (Builtin.«zip.__next__» ⟨[.ref z],[]⟩) (λsA s'=> ∃v,sA = .done (.ret v)/\Q v s') E s:=by
 obtain⟨f0,f1,u,v,hz,hf,J9,J8,h1,h2⟩:=S;show wpAny _ _ (field (.ref z) 2 >>= _) _ _ _
 refine YV<|YU hz rfl (x:=.bool false) rfl ?_;refine YV<|YU hz rfl (x:=.ref TI) rfl ?_;refine YV<|wpAny_seqItems J9 rfl ?_;refine YV<|CL hz hf (λe0 e1=>?_) λh₁ T o e0 ky hT Q1=>?_
 .subst e0 e1;refine wpAny_ite_true rfl ?_;refine YV (wpAny_rule ?_);refine YV (YU hz rfl (x:=.ref TO) rfl ?_);refine YV (wpAny_setField_rec hz (by simp) λh₁ ky l6=>?_);replace ky:IsZip h₁ z TI TO .ellipsis:=ky;have sA:(M[k]?=none∨ys[k]?=none)→ ∀ {bV:Heap} {e:Addr},(∀c o,c≠z→c≠TO→c≠i1→c≠i2→h₁.get? c=some o→bV.get? c=some o)→IsZip bV z TI TO .ellipsis→(∃o,bV.get? e=some o∧o.cls=.type "StopIteration")→wpAny (model prog w) A (setField (.ref z) 0 .none) (fun aa s'=>E (.ref e) s') E {s with heap:=bV}:=fun hn {bV e} k GR he=>by
   obtain⟨oe,NP,Tz⟩:=he;have U0:e≠z:=λx=>by subst x;rw[GR]at NP;injection NP with NP;subst NP;simp at Tz
   exact wpAny_setField_rec GR (by simp) λfy aa du=>hE hn fy e (λc o c1 c2 c3 c4 x=>du.extBut _ _ c1<|k c o c1 c2 c3 c4<|l6.extBut _ _ c1 x) ⟨oe,du.extBut _ _ U0 NP,Tz⟩
  refine YV ?_;simp only[zipIdx_cons,List.zipIdx_nil,forIn_cons,List.forIn_nil];refine YV<|YV<|wpAny_onRaise ?_;refine YV<|jw hh (h1.at (λo=>l6.extBut _ o D.i1z) (λo=>l6.extBut _ o D.l1z)) D.l1i1 (λx bV hx vr eh=>YR ?_) λhn bV e eh he=>sA (.inl hn) (λc o aa ai c3 br x=>eh _ _ c3 x) (eh _ _ D.i1z.symm ky) he;refine YV<|wpAny_seqItems (eh.extBut _ _ D.TOi1<|l6.extBut _ _ D.TOz J8) rfl ?_;refine YV<|wpAny_updateSeq_pair (eh.extBut _ _ D.TOi1<|l6.extBut _ _ D.TOz J8) λfy o4 du=>?_;replace o4:IsPair fy TO x v:=o4;refine YV<|wpAny_letGo<|YR ?_;refine YV<|YV<|wpAny_onRaise ?_;have k3:∀c o,c≠z->c≠i1->c≠TO->s.heap.get? c=some o->fy.get? c=some o:=λc o c1 c2 c3 e=>du.extBut _ _ c3<|eh.extBut _ _ c2<|l6.extBut _ _ c1 e;refine YV<|jw hh (h2.at (λo e=>k3 _ o D.i2z D.i12.symm D.TOi2.symm e) λo e=>k3 _ o D.l2z D.l2i1 D.l2TO e) D.l2i2 (λy JO hy N4 iY=>YR ?_) λhn JO e iY he=>sA (.inr hn) (λc o aa c2 c3 c4 x=>iY _ _ c4<|du.extBut _ _ c2<|eh.extBut _ _ c3 x) (iY _ _ D.i2z.symm<|du.extBut _ _ D.TOz.symm<|eh.extBut _ _ D.i1z.symm ky) he;refine YV<|wpAny_seqItems (iY.extBut _ _ D.TOi2 o4) rfl ?_;refine YV<|wpAny_updateSeq_pair (iY.extBut _ _ D.TOi2 o4) λqZ oZ lZ=>?_;replace oZ:IsPair qZ TO x y:=oZ;refine YV<|wpAny_letGo<|YR<|YR ?_;refine YV<|wpAny_seqItems oZ rfl ?_;refine YV<|wpAny_newTuple ?_;have hsz:qZ.objs.size=s.heap.objs.size:=by rw[lZ.1,iY.1,du.1,eh.1,l6.1]
  have GQ:=lZ.extBut _ _ D.TOz.symm (iY.extBut _ _ D.i2z.symm (du.extBut _ _ D.TOz.symm (eh.extBut _ _ D.i1z.symm ky)));have k5:∀c o,c≠z->c≠TO->c≠i1->c≠i2->s.heap.get? c=some o->qZ.get? c=some o:=λc o c1 c2 c3 c4 e=>lZ.extBut _ _ c2 (iY.extBut _ _ c4 (k3 c o c1 c3 c2 e));refine YV ?_;unfold Builtin.SmallTypes.ownedTupleHandOut;have NJ:IsZip (qZ.push {cls:=.type "tuple",data:=.seq #[x,y]}) z TI TO .ellipsis:=Z2 _ GQ;refine YV (wpAny_setField_rec NJ (by simp) fun UC NI GV=>?_);refine wpAny_setField_rec NI (by simp) fun EM vj GU=>?_;replace vj:IsZip EM z TI TO (rawInt qZ.objs.size):=vj;have up:∀c o,c≠z->qZ.get? c=some o->EM.get? c=some o:=λc o c1 e=>GU.extBut _ _ c1 (GV.extBut _ _ c1 (Z2 _ e));have So:=Nat.ne_of_gt (ZZ GQ);have vq:=GU.extBut _ _ So (GV.extBut _ _ So (Z1 _ rfl));refine YR ⟨_,rfl,?_⟩;have kk:∀c o,c≠z->c≠TO->c≠i1->c≠i2->s.heap.get? c=some o->EM.get? c=some o:=λc o c1 c2 c3 c4 e=>up c o c1 (k5 c o c1 c2 c3 c4 e);exact hQ x y hx hy EM _ (by rw[hsz];exact Heap.get?_none_of_le (Zh _)) ⟨_,_,x,y,vj,.LT vq,kk _ _ D.TIz D.TITO D.TIi1 D.TIi2 J9,up _ _ D.TOz oZ,vr.at (λo e=>up _ o D.i1z (lZ.extBut _ _ D.TOi1.symm (iY.extBut _ _ D.i12 (du.extBut _ _ D.TOi1.symm e)))) (λo e=>up _ o D.l1z (lZ.extBut _ _ D.l1TO (iY.extBut _ _ D.l1i2 (du.extBut _ _ D.l1TO e)))),N4.at (λo e=>up _ o D.i2z (lZ.extBut _ _ D.TOi2.symm e)) (λo e=>up _ o D.l2z (lZ.extBut _ _ D.l2TO e))⟩ vq kk λaa=>vj
 .have k1:∀c o,c≠z->s.heap.get? c=some o->h₁.get? c=some o:=λc o c1 e=>by
   rcases Q1 with⟨_,rfl⟩|⟨_,sb⟩
   .exact e
   .exact sb.extBut _ _ c1 e
  have QT:h₁.objs.size=s.heap.objs.size:=by
   rcases Q1 with⟨_,rfl⟩|⟨_,sb⟩
   .rfl
   .exact sb.1
  subst e0;refine YT rfl ?_;refine YV ?_;rw[<- forIn_toList];simp only[forIn_cons,List.forIn_nil];refine YV<|YV<|wpAny_holding ?_;refine YV<|jw (s:= {s with heap:=h₁}) hh (h1.at (λo=>k1 _ o D.i1z) (λo=>k1 _ o D.l1z)) D.l1i1 (λx bV hx vr eh=>YR<|YR ?_) λhn bV e eh he=>hE (.inl hn) bV e (λc o c1 aa c3 ai x=>eh _ _ c3<|k1 c o c1 x) he;refine YV<|YV<|wpAny_holding ?_;have k2:∀c o,c≠z->c≠i1->s.heap.get? c=some o->bV.get? c=some o:=λc o c1 c2 e=>eh.extBut _ _ c2<|k1 c o c1 e;refine YV<|jw (s:= {s with heap:=bV}) hh (h2.at (λo e=>k2 _ o D.i2z D.i12.symm e) λo e=>k2 _ o D.l2z D.l2i1 e) D.l2i2 (λy fy hy He du=>YR<|YR<|YR ?_) λhn fy e du he=>hE (.inr hn) fy e (λc o c1 aa c3 c4 x=>du _ _ c4<|k2 c o c1 c3 x) he;show wpAny _ _ (newTuple [x,y] >>= _) _ _ _
  refine YV<|wpAny_newTuple<|YR ⟨_,rfl,?_⟩;have hsz:fy.objs.size=s.heap.objs.size:=by rw[du.1,eh.1,QT]
  have P:∀ {c:Addr} {o:Obj},fy.get? c=some o→(fy.push {cls:=.type "tuple",data:=.seq #[x,y]}).get? c=some o:=fun e=>Z2 _ e;have kk:∀c o,c≠z->c≠i1->c≠i2->s.heap.get? c=some o->fy.get? c=some o:=λc o c1 c2 c3 e=>du.extBut _ _ c3 (k2 c o c1 c2 e);have vq:IsPair (fy.push {cls:=.type "tuple",data:=.seq #[x,y]}) fy.objs.size x y:=Z1 _ rfl;have AV:∃o,fy.get? T=some o:=by
   by_cases q1:T=i1
   .obtain⟨o,e⟩:=vr.live;exact⟨o,q1▸du.extBut _ _ D.i12 e⟩
   by_cases q2:T=i2
   .exact q2▸He.live
   by_cases q3:T=z
   .exact Hj q3 ⟨_,(du.extBut _ _ D.i2z.symm<|eh.extBut _ _ D.i1z.symm ky)⟩
   exact⟨o,kk T o q3 q1 q2 hT⟩
  obtain⟨oT,AV⟩:=AV;exact hQ x y hx hy _ _ (by rw[hsz];exact Heap.get?_none_of_le<|Zh _) ⟨_,_,u,v,P<|du.extBut _ _ D.i2z.symm<|eh.extBut _ _ D.i1z.symm ky,.LT<|P AV,P<|kk _ _ D.TIz D.TIi1 D.TIi2 J9,P<|kk _ _ D.TOz D.TOi1 D.TOi2 J8,vr.at (λo e=>P<|du.extBut _ _ D.i12 e) (λo e=>P<|du.extBut _ _ D.l1i2 e),He.at (λo e=>P e) (λo e=>P e)⟩ vq (λc o c1 aa c3 c4 e=>P<|kk c o c1 c3 c4 e) λq=>by have q:=Y2 Obj.data<|Y5<|hz.symm.trans q;exact nomatch q
theorem Gz{Q:Option Value->Shared->Prop}(hh:A.handled=none)(D:ZipApart z TI TO i1 i2 l1 l2)(S:ms z TI TO i1 i2 l1 l2 M ys k b s.heap)
  (hQ:∀x y,M[k]?=some x->ys[k]?=some y-> ∀h' T,s.heap.get? T=none->ms z TI TO i1 i2 l1 l2 M ys (k+1) b h'->IsPair h' T x y->
   (∀c o,c≠z->c≠TO->c≠i1->c≠i2->s.heap.get? c=some o->h'.get? c=some o)->(IsZip s.heap z TI TO .none->IsZip h' z TI TO (rawInt T))->Q (some<|.ref T) {s with heap:=h'})
  (hE:(M[k]?=none\/ys[k]?=none)-> ∀h',(∀c o,c≠z->c≠TO->c≠i1->c≠i2->s.heap.get? c=some o->h'.get? c=some o)->Q none {s with heap:=h'}):
  wpAny (model prog w) A (pyNext<|.ref z) Q E s:=by
 unfold pyNext;refine YV (wpAny_attempt (wpAny_callSpecial?_slot (name:=Str.ofString "__next__") S.ty F.slot_zip_next (wpAny_call_entry F.slot_zip_next S.ty F.entry_zip_next (HQ hh D S (fun x y hx hy h' T a0 a1 a2 a3 a4=>YR (hQ x y hx hy h' T a0 a1 a2 a3 a4)) fun hn h' e hk he=>?_) (F.args_zip_next_1 _))));obtain ⟨o,ho,hc⟩:=he;exact YV (wpAny_isInstance (T:="StopIteration") (b:=true) ⟨o,ho,hc⟩ isSubtype_stop (YR (hE hn _ hk)))
theorem lu{Q:Option Value->Shared->Prop}(hh:A.handled=none)(D:ZipApart z TI TO i1 i2 l1 l2)(S:ms z TI TO i1 i2 l1 l2 M ys k b s.heap)(hx:M[k]?=some x)(hy:ys[k]?=some y)
  (hQ:∀h' T,s.heap.get? T=none->ms z TI TO i1 i2 l1 l2 M ys (k+1) b h'->IsPair h' T x y->
   (∀c o,c≠z->c≠TO->c≠i1->c≠i2->s.heap.get? c=some o->h'.get? c=some o)->(IsZip s.heap z TI TO .none->IsZip h' z TI TO (rawInt T))->Q (some<|.ref T) {s with heap:=h'}):
  wpAny (model prog w) A (pyNext<|.ref z) Q E s:=
 Gz hh D S (λx' y' mL UD h' T a0 a1 a2 a3 a4=>hQ h' T a0 a1 (Y5 (mL.symm.trans hx)▸Y5 (UD.symm.trans hy)▸a2) a3 a4) λhn=>hn.elim (λq=>nomatch q.symm.trans hx) λq=>nomatch q.symm.trans hy
theorem mX{Q:Option Value->Shared->Prop}(hh:A.handled=none)(D:ZipApart z TI TO i1 i2 l1 l2)(S:ms z TI TO i1 i2 l1 l2 M ys k b s.heap)(J1:M[k]?=none\/ys[k]?=none)
  (hQ:∀h',(∀c o,c≠z->c≠TO->c≠i1->c≠i2->s.heap.get? c=some o->h'.get? c=some o)->Q none {s with heap:=h'}):wpAny (model prog w) A (pyNext<|.ref z) Q E s:=
 Gz hh D S (λx y hx hy=>J1.elim (λq=>nomatch q.symm.trans hx) λq=>nomatch q.symm.trans hy) λaa=>hQ
theorem ym{Q:VR}(S:ms z TI TO i1 i2 l1 l2 M ys k b s.heap)(h:Q (.ref z) s):wpAny (model prog w) A (pyIter (.ref z)) Q E s:=by refine wpAny_pyIter_slot S.ty F.slot_zip_iter (wpAny_call_entry F.slot_zip_iter S.ty F.entry_zip_iter ?_ (F.args_zip_iter_1 _));exact YR ⟨_,rfl,"zip",_,S.ty,F.slot_zip_next.lookup,h⟩
end
def kS(h:Heap)(l:Addr)(M:Array Value):Bool->Prop
 |false=>h.IsTuple l M
 |true=>h.IsList l M
noncomputable abbrev QM(l:Addr)(b:Bool) :Obj:= {cls:=.type (if b then "list_iterator" else "tuple_iterator"),data:=.fields #[.ref l,.int 0 0]}
theorem kS.at{l:Addr}{M:Array Value}(x:kS h l M b)(k:∀o,h.get? l=some o->h'.get? l=some o):kS h' l M b:=by cases b with
 |false=>obtain⟨o,e,r⟩:=x;exact⟨o,k o e,r⟩
 |true=>obtain⟨o,e,r⟩:=x;exact⟨o,k o e,r⟩
theorem kS.its{i l:Addr}{M:Array Value}(x:kS h l M b)(e:h.get? i=some (QM l b)):r8 h i l M 0 b:=by cases b with
 |false=>exact⟨⟨_,e,rfl,rfl⟩,x⟩
 |true=>exact⟨⟨_,e,rfl,rfl⟩,x⟩
theorem Av{prog:Program}{w:World}{s:Shared}{l:Addr}{M:Array Value}{Q:VR}(x:kS s.heap l M b)(h:Q (.ref s.heap.objs.size) {s with heap:=s.heap.push (QM l b)}):wpAny (model prog w) A (pyIter<|.ref l) Q E s:=by cases b with
 |false=>exact wpAny_pyIter_tuple x h
 |true=>exact wpAny_pyIter_list x h
set_option maxHeartbeats 4000000 in
theorem Mb(l1 l2:Addr)(M ys:Array Value)(b:Bool) :Meets (Builtin.«zip.__new__» ⟨[.type "zip",.ref l1,.ref l2],[]⟩) (fun aa R s=>kS s.heap l1 M b∧kS s.heap l2 ys false∧
  ∀h',ms (s.heap.objs.size+4) (s.heap.objs.size+2) (s.heap.objs.size+3) s.heap.objs.size (s.heap.objs.size+1) l1 l2 M ys 0 b h'->IsZip h' (s.heap.objs.size+4) (s.heap.objs.size+2) (s.heap.objs.size+3) .none->(∀c o,s.heap.get? c=some o->h'.get? c=some o)->R (.ok<|.ret<|.ref<|s.heap.objs.size+4) {s with heap:=h'}):=
 .of_wp λprog w A R s h=>by
  obtain⟨hp,g,d,tk,os⟩:=s;obtain⟨yd,vn,h⟩:=h;have JQ:=sub_zip;have P:∀{h:Heap}{c:Addr}{o:Obj}(o':Obj),h.get? c=some o->(h.push o').get? c=some o:=λo' e=>Z2 o' e;have N:∀{h:Heap}{n:Nat}(o:Obj),h.objs.size=n->o.isFreed=false->(h.push o).get? n=some o:=fun {h n} o e f=>e▸Z1 h f;have U9:kS (Shared.heap ⟨hp,g,d,tk,os⟩) l1 M b:=yd;have U8:kS (Shared.heap ⟨hp.push<|QM l1 b,g,d,tk,os⟩) l2 ys false:=vn.at λo=>P _
  wp_walk using Av U9,Av U8
  refine⟨_,rfl,?_⟩;simp only[Heap.size_push]at h ⊢;refine h _ ⟨_,_,_,_,N _ (by simp only[Heap.size_push]) rfl,.new,P _<|P _<|N _ (by simp only[Heap.size_push]) rfl,P _<|N _ (by simp only[Heap.size_push]) rfl,(yd.at λo e=>P _<|P _<|P _<|P _<|P _ e).its<|P _<|P _<|P _<|P _<|N _ rfl rfl,(vn.at λo e=>P _<|P _<|P _<|P _<|P _ e).its<|P _<|P _<|P _<|N _ (by simp only[Heap.size_push]) rfl⟩ (N _ (by simp only[Heap.size_push]) rfl) λc o e=>P _<|P _<|P _<|P _<|P _ e
theorem BZ{prog:Program}{w:World}{A:Around}{E:VR}{s:Shared}{l1 l2:Addr}{M ys:Array Value}{Q:VR}(yd:kS s.heap l1 M b)(vn:kS s.heap l2 ys false)
  (h:∀h',ms (s.heap.objs.size+4) (s.heap.objs.size+2) (s.heap.objs.size+3) s.heap.objs.size (s.heap.objs.size+1) l1 l2 M ys 0 b h'->IsZip h' (s.heap.objs.size+4) (s.heap.objs.size+2) (s.heap.objs.size+3) .none->(∀c o,s.heap.get? c=some o->h'.get? c=some o)->Q (.ref<|s.heap.objs.size+4) {s with heap:=h'}):
  wpAny (model prog w) A (call (.type "zip") [.ref l1,.ref l2]) Q E s:=
 callType_new F.called_zip (by decide) (F.typeCall_zip_2 _ _) (F.newCall_zip_2 _ _) (λobj=>F.args_object_init_3 obj _ _) F.entry_zip_new (Mb l1 l2 M ys b) ⟨yd,vn,λh' S q k=>⟨S.ty,h h' S q k⟩⟩
section
variable {prog:Program}{w:World}{A:Around}{E:VR}{s:Shared}
theorem Aq:typeLookup (.type "zip") "keys"=pure none:=am_miss_of_fast (by kernel_rfl)
theorem HP:typeLookup (.type "zip") "__getattr__"=pure none:=am_miss_of_fast (by kernel_rfl)
theorem pj:entryFor table "zip.__getattribute__"=some Builtin.«object.__getattribute__»:=
 entryFor_alias (id':="object.__getattribute__") (by kernel_rfl) (by decide +kernel) (by decide +kernel) (by kernel_rfl)
theorem yk(a:Addr)(M:Array Value)(u:Tok) :Meets (Builtin.«object.__getattribute__» ⟨[.ref a,.str "keys" u],[]⟩) (fun A R s=>s.heap.get? a=some {cls:=.type "zip",dict:=none,data:=.fields M,slots:=#[]}∧raisesAttr (.ref a) "keys" A R s):=
 Meets.of_wp λprog w A R s hs=>by
  obtain ⟨hp,g,d,tk,os⟩:=s;have hx:=hs.1; have hs:=hs.2;have hT:(⟨hp,g,d,tk,os⟩ :Shared).TypeIs (.ref a) "zip":=⟨_,hx,rfl⟩
  have hk:=Aq;unfold Builtin.«object.__getattribute__»
  repeat (any_goals (first|assumption|wp_step))
  try simp only [show (["__module__","__name__","__qualname__","__doc__","__annotations__"] :VT).contains "keys"=false by decide,false_eq_true,if_false]
  repeat (any_goals (first|assumption|wp_step))
  exact wpAny_raiseAttrError hs.1 hs.2<|attrMsg_fits (by decide +kernel) (by size_fits)
theorem sE{a:Addr}{M:Array Value}{Q:Option Value→Shared→Prop}(hx:s.heap.get? a=some {cls:=.type "zip",dict:=none,data:=.fields M,slots:=#[]})(hA:A.handled=none)
  (h:∀h' tk,(∀b o,s.heap.get? b=some o→h'.get? b=some o)→Q none {s with heap:=h',toks:=tk}) :wpAny (model prog w) A (getAttr? (.ref a) "keys") Q E s:=by
 obtain ⟨hp,g,d,tk,os⟩:=s;have hT:∀C4,(⟨hp,g,d,C4,os⟩ :Shared).TypeIs (.ref a) "zip":=fun aa=>⟨_,hx,rfl⟩
 have f1:=sub_AttributeError;have f3:=F.slot_zip_getattribute.lookup;have f4:=F.slot_zip_getattribute.bind<|.ref a;have f5:=HP;unfold getAttr? getAttrBy? getAttrBy
 repeat (any_goals (first | assumption | exact hT _ | ((with_reducible show wpAny _ _ (call (builtin "zip.__getattribute__") _ _) _ _ _); refine call_meets F.slot_zip_getattribute (hT _) pj (F.args_zip_getattribute_2 _ _) (yk a M _) ⟨hx,hA,fun h' C4 e mL=>?_⟩) | wp_step))
 refine er mL.there λt' u' he=>?_;unfold getattributeRaised
 repeat (any_goals (first|assumption|wp_step))
 exact h _ _ mL.of.keeps
theorem wO:typeLookup (.type "list") "keys"=pure none:=am_miss_of_fast (by kernel_rfl)
theorem qQ{a:Addr}{M:Array Value}{n:Nat}{Q:Option Value→Shared→Prop}(hx:s.heap.get? a=some {cls:=.type "list",data:=.seq M n})(hA:A.handled=none)
  (h:∀h' tk,(∀b o,s.heap.get? b=some o→h'.get? b=some o)→Q none {s with heap:=h',toks:=tk}) :wpAny (model prog w) A (getAttr? (.ref a) "keys") Q E s:=by
 obtain ⟨hp,g,d,tk,os⟩:=s;have hT:∀C4,(⟨hp,g,d,C4,os⟩ :Shared).TypeIs (.ref a) "list":=fun aa=>⟨_,hx,rfl⟩
 have f1:=sub_AttributeError;have f3:=F.slot_list_getattribute.lookup;have f4:=F.slot_list_getattribute.bind<|.ref a;have f5:=am_list_getattr_none;unfold getAttr? getAttrBy? getAttrBy
 repeat (any_goals (first | assumption | exact hT _ | ((with_reducible show wpAny _ _ (call (builtin "list.__getattribute__") _ _) _ _ _); refine call_meets F.slot_list_getattribute (hT _) am_entry_list_getattribute (F.args_list_getattribute_2 _ _) (meets_getattribute_miss_list a M n #[] "keys" _ wO (by decide) (by size_fits)) ⟨hx,hA,fun h' C4 e mL=>?_⟩) | wp_step))
 refine er mL.there λt' u' he=>?_;unfold getattributeRaised
 repeat (any_goals (first|assumption|wp_step))
 exact h _ _ mL.of.keeps
theorem iF:entryFor table "dict.update.loop"=some Builtin.«dict.update.loop»:=entryFor_of_tree (by kernel_rfl)
theorem dr:plainId "dict.update.loop"=true:=by decide +kernel
end
section
variable [Hp]
variable {A:Around}{E:VR}{s:Shared}{Z:VQ}{a:Value}{z TI TO i1 i2 l1 l2 d:Addr}{M ys:VU}{b:Bool}{R:Result->Shared->Prop}
theorem iI{l r:List α}{v:α}(h:l.drop i=v::r):l.toArray[i]?=some v/\l.drop (i+1)=r:=by refine⟨?_,by refine O tail_drop.symm<|O h ?_;rfl⟩;refine O (getElem?_toArray) ?_;have:=Y2 (·[0]?) h;simpa using this
theorem nM{l:List α}(h:l.drop i=[]):l.toArray[i]?=none:=by exact O (getElem?_toArray)<|getElem?_eq_none<|List.drop_eq_nil_iff.mp h
def tj(z TO i1 i2 d c:Addr):Prop:=c≠z/\c≠TO/\c≠i1/\c≠i2/\c≠d
theorem BF{k:Nat}{us:List (Str×Value)}{kvs:VY}(hh:A.in1.handled=none)(ZA:ZipApart z TI TO i1 i2 l1 l2)(nd:d∉ [z,TI,TO,i1,i2,l1,l2])(zZ:∀c,Z c->tj z TO i1 i2 d c)(S:ms z TI TO i1 i2 l1 l2 M.toArray ys.toArray k b s.heap)(J1:M.toArray[k]?=none\/ys.toArray[k]?=none)
  (hd:s.heap.DictOf (strKind prog w) d us) (K:aS s.heap Z us kvs) (hb:us.length<=1000)
  (hR:∀h' tk qe,h'.DictOf (strKind prog w) d qe->aS h' Z qe kvs->qe.length<=1000->(∀c o,tj z TO i1 i2 d c->s.heap.get? c=some o->h'.get? c=some o)->R (.ok<|.ret .none) {s with heap:=h',toks:=tk}):
  codeAny (model prog w) A (.builtin "dict.update.loop" ⟨[.ref d,.ref z,rawInt k,.none],[]⟩) R s:=by
 refine codeAny_builtin iF ?_;refine O (Around.under_plainId dr _) ?_;refine YV<|mX hh ZA S J1 λh' ex=>?_;have ko:∀c o,tj z TO i1 i2 d c->s.heap.get? c=some o->h'.get? c=some o:=λc o q e=>ex c o q.1 q.2.1 q.2.2.1 q.2.2.2.1 e;have cQ:h'.DictOf (strKind prog w) d us:=by exact kF hd λo es ep hd=>(⟨o,es,ep,ex d o (λq=>nd (by simp[q])) (λq=>nd (by simp[q])) (λq=>nd (by simp[q])) (λq=>nd (by simp[q])) hd.1,hd.2⟩)
 exact YV<|YR<|YR<|hR h' s.toks us cQ (K.mono (λc o z e=>ko c o (zZ c z) e) λaa z=>z) hb ko
theorem FD(hh:A.in1.handled=none)(ZA:ZipApart z TI TO i1 i2 l1 l2)(nd:d∉ [z,TI,TO,i1,i2,l1,l2])(zZ:∀c,Z c->tj z TO i1 i2 d c):∀(ks vs:VX)(k:Nat)(s:Shared)(us:List (Str×Value))(VM kvs:VY),ms z TI TO i1 i2 l1 l2 M.toArray ys.toArray k b s.heap->aq s.heap Z (M.drop k) ks->aq s.heap Z (ys.drop k) vs->iQ VM (fq ks vs)=some kvs->
  s.heap.DictOf (strKind prog w) d us->aS s.heap Z us VM->us.length+ks.length<=1000->
  (∀h' tk qe,h'.DictOf (strKind prog w) d qe->aS h' Z qe kvs->qe.length<=1000->(∀c o,tj z TO i1 i2 d c->s.heap.get? c=some o->h'.get? c=some o)->R (.ok<|.ret .none) {s with heap:=h',toks:=tk})->
  codeAny (model prog w) A (.builtin "dict.update.loop" ⟨[.ref d,.ref z,rawInt k,.none],[]⟩) R s:=by
 intro ks;induction ks with
 |nil=>intro vs k s us VM kvs S RX RY he hd K hb hR;generalize hv:M.drop k=r at RX;refine ak λG2 g2=>?_;cases RX;obtain rfl:=aE he;exact g2<|BF hh ZA nd zZ S (.inl<|nM hv) hd K hb hR
 |cons c ks ih=>
  intro vs k s us VM kvs S RX RY he hd K hb hR;generalize hv:M.drop k=r at RX;generalize hw:ys.drop k=r' at RY;refine ak λG1 g1=>?_;cases RX with
  |@cons x r1 _ _ rx RX=>
  refine g1 ?_;refine ak λG g=>?_;cases RY with
  |nil=>refine g ?_;obtain rfl:=aE he;exact BF hh ZA nd zZ S (.inr<|nM hw) hd K (Zg (Zl _ _) hb) hR
  |@cons y r2 e vs ry RY=>
  refine g ?_;refine ak λG3 g3=>?_;cases rx with
  |str kx t o1 o2=>
   refine g3 ?_;refine codeAny_builtin iF ?_;refine O (Around.under_plainId dr _) ?_;refine YV<|lu hh ZA S (iI hv).1 (iI hw).1 λh₁ T nT aW hT ex aa=>?_;have NZ:h₁.DictOf (strKind prog w) d us:=by exact kF hd λo es ep hd=>(⟨o,es,ep,ex d o (λq=>nd (by simp[q])) (λq=>nd (by simp[q])) (λq=>nd (by simp[q])) (λq=>nd (by simp[q])) hd.1,hd.2⟩)
   refine YV (wpAny_holding ?_);refine YV (wpAny_tryCatch ?_);unfold Builtin.Dict.pairItems;refine YV (wpAny_typeOf (T:="tuple") ⟨_,hT,rfl⟩ ?_);refine O (YX (by decide)) ?_;refine YV (wpAny_seqItems hT rfl (YR ?_));refine wpAny_holding (wpAny_dictSet_pairs (s:= {s with heap:=h₁}) (strKind_is _ _ kx t) NZ (fun bV vo qw=>?_) (by refine O bW.symm ?_; exact Zg (Zg (Zl _ _) hb) (by decide)));have k2:∀c o,tj z TO i1 i2 d c→s.heap.get? c=some o→bV.get? c=some o:=fun c o q e=>qw.extBut c o q.2.2.2.2 (ex c o q.1 q.2.1 q.2.2.1 q.2.2.2.1 e);have kz:∀c o,Z c->s.heap.get? c=some o->bV.get? c=some o:=λc o z e=>k2 c o (zZ c z) e;have eZ:(stored us kx y).length<=us.length+1:=by
    unfold stored;split
    .simp
    .simp
   refine YR ⟨plainId_quiet dr _,?_⟩;refine ih vs (k+1) {s with heap:=bV,toks:=s.toks+1} (stored us kx y) (dO VM kx e) kvs (aW.but nd (λc o q e=>qw.extBut c o q e) (let ⟨o,_,_,e,_⟩:=vo;⟨o,e⟩)) ((iI hv).2▸RX.mono kz λaa z=>z) ((iI hw).2▸RY.mono kz λaa z=>z) he vo ((K.set o1 o2 ry).mono kz λaa z=>z) ?_ λh' tk qe a1 a2 a3 a4=>hR h' tk qe a1 a2 a3 λc o q e=>a4 c o q<|k2 c o q e;have:us.length+(ks.length+1)<=1000:=hb;exact(Ln [(stored us kx y).length,ks.length,us.length] (.w (.a .x .y)<|.c 1000) [Gl (.a .z<|.p 1 .y)<|.c 1000,Gl .x<|.p 1 .z] rfl hb eZ)
  |_=>exact g3<|am he
theorem oi(hs:3<h.objs.size):(h.objs.size==sysModules)=false:=by rw[beq_eq_false_iff_ne];intro e;rw[e]at hs;exact absurd hs (by decide)
theorem DT{d e:D}{r:Rv}{b:Value}(hs:3<s.heap.objs.size)(hh:A.handled=none)(he:jm .dzip [d,e]=some r)(ra:cU s.heap Z a d)(rb:cU s.heap Z b e)(zl:∀b,Z b-> ∃o,s.heap.get? b=some o):
  wpAny (model prog w) A (call (.type "zip") [a,b]) (fun v s₁=>wpAny (model prog w) A (call (.type "dict") [v]) (Op Z s r) E s₁) E s:=by
 refine ak λG g=>?_;obtain⟨ks,vs,rfl,rfl,hx,he⟩:∃ks vs,d = .list ks/\e = .tuple vs/\ks.length<=1000/\((iQ []<|fq ks vs).map λkvs=>Rv.KK<|.dict kvs)=some r:=by cases d with
  |list ks=>cases e with
   |tuple vs=>
    have he:(if ks.length<=1000 then(iQ []<|fq ks vs).map λkvs=>Rv.KK (.dict kvs) else none)=some r:=he;by_cases q:ks.length<=1000
    .rw[YX q]at he;exact⟨ks,vs,rfl,rfl,q,he⟩
    .rw[YY q]at he;exact am he
   |_=>exact am he
  |_=>exact am he
 obtain⟨l1,M,n1,rfl,yd,_,R1⟩:=ra.list;obtain⟨l2,ys,n2,rfl,vn,_,R2,_⟩:=rb.tuple;obtain⟨kvs,hk,rfl⟩:=Z9 he;have a1:=ZZ yd;have a2:=ZZ vn;generalize hN:s.heap.objs.size=N at *;refine g ?_;refine BZ (b:=true) ⟨_,yd,rfl,_,rfl⟩ ⟨_,vn,rfl,_,rfl⟩ λh₁ S aa k1=>?_;rw[hN]at S ⊢;have z0:N+4<h₁.objs.size:=by obtain⟨_,_,_,_,e,_,_,_,_,_⟩:=S;exact ZZ e
 let H1:=h₁.push {cls:=.type "dict",data:=.dict #[]}
 refine callType_codes (Q₁:=λobj s₁=>obj=.ref h₁.objs.size/\s₁={s with heap:=H1}) PySem.F.kt_called_dict (PySem.F.kt_typeCall_dict_1 _) PySem.F.entry_dict_init (kt_code_dict_new (s:= {s with heap:=h₁}) _ ⟨rfl,rfl⟩) ?_;rintro obj s₁ ⟨rfl,rfl⟩;refine ⟨(Heap.DictOf.new h₁:H1.DictOf (strKind prog w) h₁.objs.size []).typeIs,PySem.F.args_dict_init_2 _ _,?_⟩;unfold Builtin.«dict.__init__»;refine YV ?_;unfold Builtin.Dict.selfAndRest;refine YV (wpAny_notOrdered_dict (Heap.DictOf.new h₁:H1.DictOf (strKind prog w) h₁.objs.size []).typeIs ?_);refine YR ?_;show wpAny _ _ (Builtin.Dict.updateFrom "dict.__init__" h₁.objs.size (.ref (N+4)) [] .none) _ _ _
 unfold Builtin.Dict.updateFrom;have S1:ms (N+4) (N+2) (N+3) N (N+1) l1 l2 M.toArray ys.toArray 0 true H1:=S.at λc o e=>pK _ c o e;refine YV (wpAny_typeOf (T:="zip") S1.ty (s:= {s with heap:=H1}) ?_);refine O (YX (by decide)) ?_;obtain ⟨zx,GS⟩ :∃M,H1.get? (N+4)=some {cls:=.type "zip",dict:=none,data:=.fields M,slots:=#[]}:=by obtain ⟨_,_,_,_,e,_,_,_,_,_⟩:=S1; exact ⟨_,e⟩
 refine YV<|sE (s:= {s with heap:=H1}) GS (by simp[hh]) λbV qh k2=>?_;refine O (YX (show(none:Option Value).isNone=true from rfl)) ?_;refine YV<|wpAny_rule<|YV<|ym (s:= {s with heap:=bV,toks:=qh}) (S1.at λc o e=>k2 c o e) ?_;have k3:∀c o,s.heap.get? c=some o->bV.get? c=some o:=λc o e=>k2 c o<|pK _ c o<|k1 c o e;refine YR ⟨plainId_quiet dr _,?_⟩;have SX:∀c,c<N->tj (N+4) (N+3) N (N+1) h₁.objs.size c:=λc h=>⟨Zc<|Zd h<|Zl _ _,Zc<|Zd h<|Zl _ _,Zc h,Zc<|Zd h<|Zl _ _,Zc<|Nat.lt_trans (Zd h<|Zl _ 4) z0⟩
 refine FD (s:= {s with heap:=bV,toks:=qh}) (Z:=Z) (by simp[hh]) (zipApart_new a1 a2) (λq=>by simp only[Zv,Zp,or_false]at q;rcases q with q|q|q|q|q|q|q<;>(rw[q]at z0;first|exact Zf N (Nat.lt_trans (Ze (Zl N 4) z0) a1)|exact Zf N (Nat.lt_trans (Ze (Zl N 4) z0) a2)|(first|exact(Lf [N] [Gl (.p 1<|.p 4 .x)<|.p 4 .x] rfl z0)|exact(Lf [N] [Gl (.p 1<|.p 4 .x)<|.p 2 .x] rfl z0)|exact(Lf [N] [Gl (.p 1<|.p 4 .x)<|.p 3 .x] rfl z0)|exact(Lf [N] [Gl (.p 1<|.p 4 .x) .x] rfl z0)|exact(Lf [N] [Gl (.p 1<|.p 4 .x)<|.p 1 .x] rfl z0)))) (λc z=>SX c (by refine aB (zl c z) λo e=>?_;exact hN▸ZZ e)) ks vs 0 [] [] kvs (S1.at λc o e=>k2 c o e) (by refine O drop_zero ?_;exact R1.mono (λc o aa=>k3 c o) λaa z=>z) (by refine O drop_zero ?_;exact R2.mono (λc o aa=>k3 c o) λaa z=>z) hk ((Heap.DictOf.new h₁:H1.DictOf (strKind prog w) h₁.objs.size []).keep k2) .nil (by simpa using hx) λh' tk qe a1 a2 a3 a4=>?_;exact⟨rfl,h',tk,rfl,λc o e=>a4 c o (SX c<|hN▸ZZ e)<|k3 c o e,.KK (Heap.get?_none_of_le<|Ln [s.heap.objs.size,h₁.objs.size,N] (.w .x .y) [Ge .x .z,Gl (.p 1<|.p 4 .z) .y] rfl hN z0)<|.dict ⟨oi (h:=h₁)<|Ln [h₁.objs.size,N] (.w (.p 1<|.c 3) .x) [Gl (.p 1<|.c 3) .y,Gl (.p 1<|.p 4 .y) .x] rfl hs z0,a1⟩ (Zg a3 (by decide)) a2⟩
end
section
variable [Hp]
variable {A:Around}{E:VR}{s:Shared}{Z:VQ}{a:Value}{I d l:Addr}{vs:VU}{R:Result->Shared->Prop}
theorem IsLI.at{a t:Addr}(x:h.IsListIter a t i)(k:∀o,h.get? a=some o->h'.get? a=some o):h'.IsListIter a t i:=let ⟨o,e,r⟩:=x;⟨o,k o e,r⟩
theorem xF(hh:A.in1.handled=none)(Rm:I≠d)(UQ:l≠I)(UP:l≠d)(zI:¬Z I)(zd:¬Z d):∀(X:VX)(i:Nat)(s:Shared)(us:List (Str×Value))(VM kvs:VY),s.heap.IsListIter I l i->s.heap.IsList l vs.toArray->aq s.heap Z (vs.drop i) X->iQ VM X=some kvs->s.heap.DictOf (strKind prog w) d us->aS s.heap Z us VM->us.length+X.length<=1000->
  (∀h' tk qe,h'.DictOf (strKind prog w) d qe->aS h' Z qe kvs->qe.length<=1000->(∀b o,b≠I->b≠d->s.heap.get? b=some o->h'.get? b=some o)->R (.ok<|.ret .none) {s with heap:=h',toks:=tk})->
  codeAny (model prog w) A (.builtin "dict.update.loop" ⟨[.ref d,.ref I,rawInt i,.none],[]⟩) R s:=by
 intro X i s us VM kvs hi hl RA he hd K hb hR;induction X generalizing i s us VM kvs hi hl hd K hR with
 |nil=>
  have hn:vs.toArray[i]?=none:=by generalize hv:vs.drop i=r at RA;cases RA;exact O (getElem?_toArray)<|getElem?_eq_none<|List.drop_eq_nil_iff.mp hv
  obtain rfl:=aE he;refine codeAny_builtin iF ?_;refine O (Around.under_plainId dr _) ?_;refine YV<|wpAny_pyNext_list_end hh hi hl hn λh' ex=>?_;have kz:∀b o,Z b->s.heap.get? b=some o->h'.get? b=some o:=λb o z e=>ex b o (λq=>zI<|q▸z) e;exact YV<|YR<|YR<|hR h' s.toks us (hd.extBut ex<|Ne.symm Rm) (K.mono kz λaa z=>z) (by exact hb) λb o n1 aa e=>ex b o n1 e
 |cons x X ih=>
  generalize hv:vs.drop i=r at RA;cases RA with
  |@cons v r' _ _ rv RA=>
  have hx:vs.toArray[i]?=some v:=by refine O (getElem?_toArray) ?_;have:=Y2 (·[0]?) hv;simpa using this
  have wX:vs.drop (i+1)=r':=by refine O tail_drop.symm<|O hv ?_;rfl
  cases rv with
  |@tuple T us2 n2 ds2 zT hT hn2 R2=>
   cases R2 with
   |nil=>exact am he
   |@cons k r2 dk ds2 rk R2=>
   cases R2 with
   |nil=>exact am (by cases rk<;>exact he)
   |@cons y r3 dy ds3 ry R2=>
   cases R2 with
   |cons=>exact am (by cases rk<;>exact he)
   |nil=>
   cases rk with
   |str kx t o1 o2=>
    refine codeAny_builtin iF ?_;rw[Around.under_plainId dr _];refine YV (wpAny_pyNext_list_item hi hl hx λh₁ NU sb=>?_);have k1:∀b o,b≠I->s.heap.get? b=some o->h₁.get? b=some o:=λb o q e=>sb.extBut b o q e;refine YV (wpAny_holding ?_);refine YV (wpAny_tryCatch ?_);unfold Builtin.Dict.pairItems;refine YV (wpAny_typeOf (T:="tuple") ⟨_,(k1 T _ (fun q=>zI (q▸zT)) hT),rfl⟩ ?_);refine O (YX (by decide)) ?_;refine YV (wpAny_seqItems (k1 T _ (fun q=>zI (q▸zT)) hT) rfl (YR ?_));refine wpAny_holding (wpAny_dictSet_pairs (s:= {s with heap:=h₁}) (strKind_is _ _ kx t) (hd.extBut sb.extBut (Ne.symm Rm)) (fun bV vo qw=>?_) (by refine O bW.symm ?_; exact Zg (Zg (Zl _ _) hb) (by decide)));have k2:∀b o,b≠I→b≠d→s.heap.get? b=some o→bV.get? b=some o:=fun b o q q' e=>qw.extBut b o q' (k1 b o q e);have kz:∀b o,Z b->s.heap.get? b=some o->bV.get? b=some o:=λb o z e=>k2 b o (λq=>zI (q▸z)) (λq=>zd (q▸z)) e;have eZ:(stored us kx y).length<=us.length+1:=by
     unfold stored;split
     .simp
     .simp
    refine YR ⟨plainId_quiet dr _,?_⟩;refine ih (i+1) {s with heap:=bV,toks:=s.toks+1} (stored us kx y) (dO VM kx dy) kvs (IsLI.at NU λo e=>qw.extBut I o Rm e) (hl.at λo e=>k2 l o UQ UP e) (wX▸RA.mono kz λaa z=>z) he vo ((K.set o1 o2 ry).mono kz λaa z=>z) (by have:us.length+(X.length+1)<=1000:=hb;exact(Ln [(stored us kx y).length,X.length,us.length] (.w (.a .x .y)<|.c 1000) [Gl (.a .z<|.p 1 .y)<|.c 1000,Gl .x<|.p 1 .z] rfl hb eZ)) λh' tk qe a1 a2 a3 a4=>hR h' tk qe a1 a2 a3 λb o q q' e=>a4 b o q q'<|k2 b o q q' e
   |_=>exact am he
  |_=>exact am he
theorem DU{d:D}{r:Rv}(hs:3<s.heap.objs.size)(hh:A.handled=none)(he:jm .dict [d]=some r)(ra:cU s.heap Z a d)(zl:∀b,Z b-> ∃o,s.heap.get? b=some o):
  wpAny (model prog w) A (call (.type "dict") [a]) (Op Z s r) E s:=by
 have nz:¬Z s.heap.objs.size:=λz=>by obtain⟨o,e⟩:=zl _ z;rw[w8]at e;exact am e
 cases d with
 |list M=>
  obtain⟨l,vs,n,rfl,hl,hn,R⟩:=ra.list;obtain⟨hx,he⟩:M.length<=1000/\((iQ [] M).map λkvs=>Rv.KK<|.dict kvs)=some r:=by
   have he:(if M.length<=1000 then(iQ [] M).map λkvs=>Rv.KK (.dict kvs) else none)=some r:=he;by_cases q:M.length<=1000
   .rw[YX q]at he;exact⟨q,he⟩
   .rw[YY q]at he;exact am he
  obtain⟨kvs,hk,rfl⟩:=Z9 he;let H1:=s.heap.push {cls:=.type "dict",data:=.dict #[]}
  have z1:H1.objs.size=s.heap.objs.size+1:=Heap.size_push ..;refine callType_codes (Q₁:=λobj s₁=>obj=.ref s.heap.objs.size/\s₁={s with heap:=H1}) PySem.F.kt_called_dict (PySem.F.kt_typeCall_dict_1 _) PySem.F.entry_dict_init (kt_code_dict_new _ ⟨rfl,rfl⟩) ?_;rintro obj s₁ ⟨rfl,rfl⟩;have JU:H1.DictOf (strKind prog w) s.heap.objs.size []:=Heap.DictOf.new s.heap;refine ⟨JU.typeIs,PySem.F.args_dict_init_2 _ _,?_⟩;unfold Builtin.«dict.__init__»;refine YV ?_;unfold Builtin.Dict.selfAndRest;refine YV (wpAny_notOrdered_dict JU.typeIs ?_);refine YR ?_;show wpAny _ _ (Builtin.Dict.updateFrom "dict.__init__" s.heap.objs.size (.ref l) [] .none) _ _ _
  unfold Builtin.Dict.updateFrom;have yd:H1.get? l=some {cls:=.type "list",data:=.seq vs.toArray n}:=Z2 _ hl;refine YV (wpAny_typeOf (T:="list") ⟨_,yd,rfl⟩ ?_);refine O (YX (by decide)) ?_;refine YV (qQ (s:= {s with heap:=H1}) yd (by simp [hh]) fun bV qh k2=>?_);refine O (YX (show (none:Option Value).isNone=true from rfl)) ?_;refine YV (wpAny_rule (YV (wpAny_pyIter_list (s:= {s with heap:=bV,toks:=qh}) (⟨_,k2 _ _ yd,rfl,n,rfl⟩ :bV.IsList l vs.toArray) ?_)));let H3:=bV.push {cls:=.type "list_iterator",data:=.fields #[.ref l,.int 0 0]}
  have k3:∀b o,s.heap.get? b=some o->H3.get? b=some o:=λb o e=>pK _ b o<|k2 b o<|pK _ b o e;have J5:=JU.keep k2;have PG:s.heap.objs.size<bV.objs.size:=by refine kF J5 λo aa ai J5=>?_;have e:=J5.1;exact ZZ e
  refine YR ⟨plainId_quiet dr _,?_⟩;refine xF (vs:=vs) (Z:=Z) (l:=l) (s:= {s with heap:=H3,toks:=qh}) (by simp[hh]) (Nat.ne_of_gt PG) (Zc<|Nat.lt_trans (ZZ hl) PG) (Zc<|ZZ hl) (λz=>?_) nz M 0 [] [] kvs ⟨_,Z1 _ rfl,rfl,rfl⟩ ⟨_,pK _ _ _<|k2 _ _ yd,rfl,n,rfl⟩ (by refine O drop_zero ?_;exact R.mono (λb o aa=>k3 b o) λaa z=>z) hk (J5.push _) .nil (by simpa using hx) λh' tk qe a1 a2 a3 a4=>?_
  .obtain⟨o,e⟩:=zl _ z;have:=ZZ e;exact absurd (Nat.lt_trans this PG)<|Zf _
  .refine⟨rfl,h',tk,rfl,λb o e=>?_,.KK (w8 _)<|.dict ⟨oi hs,a1⟩ (Zg a3 (by decide)) a2⟩;exact a4 b o (Zc<|Nat.lt_trans (ZZ e) PG) (Zc<|ZZ e)<|k3 b o e
 |_=>exact am he
end
end Mv
namespace Lq
open PySem Mv
noncomputable abbrev gK(n:Int):Mv.Ex:=.lit<|.int n
noncomputable abbrev ae(n:Nat):Mv.Ex:=.var n
noncomputable abbrev S(l:VS):D:=.str ⟨l.toArray⟩
noncomputable abbrev pY:Str:=⟨#[72,97,108,102,69,114,114,111,114]⟩
noncomputable abbrev bz:Str:=⟨#[78,111,78,117,109,98,101,114]⟩
noncomputable abbrev cu:Str:=⟨#[78,111,76,105,115,116]⟩
noncomputable abbrev bY:Str:=⟨#[78,111,70,105,114,115,116]⟩
noncomputable abbrev c8:Str:=⟨#[78,111,68,111,119,110]⟩
noncomputable abbrev bU:Str:=⟨#[66,121,78,111,117,103,104,116]⟩
noncomputable abbrev cH:Str:=⟨#[84,111,111,71,114,101,97,116]⟩
noncomputable abbrev mY:Str:=⟨#[78,111,116,75,101,112,116]⟩
noncomputable def EX:D:=(.int 1000000000000000000)
noncomputable def tU:D:=(.int 50)
noncomputable def nI:D:=(.tuple [(S [100,111,119,110]),(S [102,105,114,115,116]),(S [114,101,115,116]),(S [101,109,112,116,121])])
noncomputable def Kb:D:=(.tuple [(S [102,105,114,115,116]),(S [114,101,115,116]),(S [100,111,119,110])])
noncomputable abbrev cY:Ex:=.lit<|.int 1
noncomputable abbrev R5:List St:=[.ret<|.neg cY]
noncomputable abbrev dK:Ex:=.lit<|.int 0
noncomputable abbrev R6:List St:=[.asg (.one 3)<|.call 0 [ae 4,ae 3],.iff (.cmp .lt (ae 3) dK) R5 []]
noncomputable abbrev xr:Ex:=.op2 .sub (ae 1) cY
noncomputable abbrev BA:Ex:=.bi (.isi .tup) [ae 0]
noncomputable def rq:Fn:=⟨2,5,[.iff (.cmp .lt (ae 1) cY) R5 [],.iff (.not BA) [.asg (.one 2)<|.bo true [.bi (.isi .int) [ae 0],.not<|.bi (.isi .bool) [ae 0],.cmp2 .lt .lt (.neg<|.gl 0) (ae 0)<|.gl 0],.iff (ae 2) [.ret xr] R5] [],.asg (.one 3) xr,.for_ (.one 4) .seq [ae 0] R6 [4],.ret<|ae 3],0,[]⟩
noncomputable def t9:Fn:=⟨1,1,[.ret<|.cmp .ge (.call 0 [ae 0,.gl 1]) dK],0,[]⟩
noncomputable def xo:Fn:=⟨1,1,[.iff (.not<|.call 1 [ae 0]) [.raise cH] [],.ret<|ae 0],0,[]⟩
noncomputable abbrev uk:Ex:=.bi (.isi .tup) [ae 1]
noncomputable abbrev Fx:Ex:=.lit<|S [112,108,117,115]
noncomputable abbrev Fv:Ex:=.lit<|S [108,101,115,115]
noncomputable abbrev KA:Ex:=.lit<|S [116,105,109,101,115]
noncomputable def mO:Fn:=⟨3,3,[.iff (.bo false [uk,.bi (.isi .tup) [ae 2]]) [.raise bz] [],.iff (.cmp .eq (ae 0) Fx) [.ret<|.op2 .add (ae 1)<|ae 2] [],.iff (.cmp .eq (ae 0)<|.lit<|S [109,105,110,117,115]) [.ret<|.op2 .sub (ae 1)<|ae 2] [],.iff (.cmp .eq (ae 0) KA) [.ret<|.op2 .mul (ae 1)<|ae 2] [],.iff (.cmp .eq (ae 0) Fv) [.ret<|.bi .int [.cmp .lt (ae 1)<|ae 2]] [],.iff (.cmp .eq (ae 2) dK) [.raise bU] [],.ret<|.op2 .fdiv (ae 1)<|ae 2],0,[]⟩
noncomputable def Kk:Fn:=⟨1,1,[.iff BA [.raise bz] [],.iff (.cmp .lt (ae 0) cY) [.raise c8] [],.ret<|.op2 .sub (ae 0) cY],0,[]⟩
noncomputable abbrev mQ:Ex:=.lit<|S [102,105,114,115,116]
noncomputable abbrev iP:Ex:=.idx (ae 1) dK
noncomputable abbrev ul:Ex:=.lit<|S [101,109,112,116,121]
noncomputable abbrev BC:Ex:=.bi .len [ae 1]
noncomputable abbrev rK:Ex:=.lit .none
noncomputable abbrev Fk:Ex:=.cmp .eq BC dK
noncomputable def rt:Fn:=⟨2,2,[.iff (.not uk) [.raise cu] [],.iff (.cmp .eq (ae 0) ul) [.ret<|.bi .int [Fk]] [],.iff Fk [.raise bY] [],.iff (.cmp .eq (ae 0) mQ) [.ret iP] [],.ret<|.slc (ae 1) cY rK],0,[]⟩
noncomputable def Bk:Fn:=⟨2,2,[.iff (.not uk) [.raise cu] [],.ret<|.op2 .add (.tup [ae 0])<|ae 1],0,[]⟩
noncomputable abbrev pr:Ex:=.lit<|S [108,105,115,116]
noncomputable abbrev rL:Ex:=.lit<|S [100,111,119,110]
noncomputable abbrev BB:Ex:=.lit<|S [106,111,105,110]
noncomputable abbrev ui:Ex:=.idx (ae 1) cY
noncomputable abbrev Kz:Ex:=.lit<|S [115,97,109,101]
noncomputable def Kl:Fn:=⟨2,2,[.iff (.cmp .eq (ae 0) pr) [.ret<|.call 2 [.bi .tuple [ae 1]]] [],.iff (.cmp .eq (ae 0) rL) [.ret<|.call 4 [iP]] [],.iff (.cmp .isin (ae 0)<|.gl 2) [.ret<|.call 5 [ae 0,iP]] [],.iff (.cmp .eq (ae 0) Kz) [.ret<|.bi .int [.cmp .eq iP ui]] [],.iff (.cmp .eq (ae 0) BB) [.ret<|.call 2 [.call 6 [iP,ui]]] [],.ret<|.call 2 [.call 3 [ae 0,iP,ui]]],0,[]⟩
noncomputable abbrev RH:List St:=[.asg (.one 2)<|.op2 .add (.pl<|.var 2)<|.call 8 [ae 3]]
noncomputable abbrev iO:Ex:=.lit<|S [118,97,108,117,101]
noncomputable abbrev kN:Ex:=.lit<|S [114,101,102,117,115,101]
noncomputable abbrev f8:Ex:=.lit<|.int 2
noncomputable abbrev rJ:Ex:=.lit<|S [99,97,108,108]
noncomputable abbrev vD:Ex:=.lit<|S [110,97,109,101]
noncomputable abbrev jJ:Ex:=.idx (ae 0) dK
noncomputable abbrev mc:Ex:=.lit<|S [105,102]
noncomputable abbrev uh:Ex:=.idx (ae 0) f8
noncomputable def ua:Fn:=⟨1,4,[.iff (.cmp .isin jJ<|.tup [iO,vD,kN]) [.ret<|.list []] [],.iff (.cmp .eq jJ mc) [.asg (.one 1)<|.slc (ae 0) cY rK] [.asg (.one 1) uh],.asg (.one 2)<|.list [],.for_ (.one 3) .seq [ae 1] RH [3],.iff (.cmp .eq jJ rJ) [.app (.var 2)<|ae 0] [],.ret<|ae 2],0,[]⟩
noncomputable abbrev iZ:Ex:=.lit<|S [100,111]
noncomputable abbrev j9:Ex:=.idx (ae 0) cY
noncomputable def xn:Fn:=⟨2,2,[.iff (.cmp .eq jJ vD) [.ret<|.cmp .isin j9<|ae 1] [],.iff (.cmp .eq jJ iZ) [.ret<|.bo true [.cmp .isin j9<|.gl 3,.call 9 [(.idx uh dK),ae 1]]] [],.ret<|.cmp .isin jJ<|.tup [iO,kN]],0,[]⟩
noncomputable abbrev gF:Ex:=.lit<|.bool false
noncomputable abbrev Sp:List St:=[.iff (.bo true [ae 8,.not<|.call 9 [ae 7,ae 5]]) [.ret gF] []]
noncomputable abbrev Fl:Ex:=.idx (ae 6) cY
noncomputable abbrev TN:List St:=[.for_ (.tup [7,8]) .zip [.idx (ae 6) f8,.idx (ae 1) Fl] Sp [7,8]]
noncomputable abbrev S9:List St:=[.asg (.one 5)<|.comp (ae 9) (.tup [9,10]) .zip [ae 3,.idx (ae 1)<|ae 2] [ae 10],.for_ (.one 6) .seq [.call 8 [ae 4]] TN [6,7,8]]
noncomputable abbrev kO:Ex:=.lit<|.bool true
noncomputable def Fa:Fn:=⟨2,11,[.for_ (.tup [2,3,4]) .seq [ae 0] S9 [2,3,4,5,6,7,8],.ret kO],0,[]⟩
noncomputable abbrev xt:Ex:=.lit<|S [78,111,78,117,109,98,101,114]
noncomputable abbrev BD:Ex:=.lit<|S [78,111,76,105,115,116]
noncomputable abbrev FC:Ex:=.lit<|S [66,121,78,111,117,103,104,116]
noncomputable abbrev FA:Ex:=.lit<|S [84,111,111,71,114,101,97,116]
noncomputable abbrev Fz:Ex:=.lit<|S [78,111,68,111,119,110]
noncomputable abbrev KD:Ex:=.lit<|S [78,111,70,105,114,115,116]
noncomputable def o8:Fn:=⟨2,3,[.tryx [.asg (.one 2)<|.call 7 [ae 0,ae 1]] [(bz,(.tup [kN,xt])),(cu,(.tup [kN,BD])),(bY,(.tup [kN,KD])),(c8,(.tup [kN,Fz])),(bU,(.tup [kN,FC])),(cH,(.tup [kN,FA]))],.ret<|.tup [iO,ae 2]],0,[]⟩
noncomputable abbrev Kv:Ex:=.bi .len [.pl<|.var 3]
noncomputable abbrev Mg:List St:=[.app (.var 3)<|.mcall 50 [7,8,9,10] [Kv]]
noncomputable abbrev Ml:List St:=[.app (.var 4)<|.tup [.op2 .add (.lit<|S [102])<|.bi .str [ae 5],.idx (ae 6) dK,Fl]]
noncomputable def A6:Fn:=⟨3,11,[.iff (.not<|.call 10 [ae 0,ae 1]) [.raise mY] [],.new 44 [7,8,9,10] [ae 0,ae 1] [.exp<|.mcall 45 [7,8,9,10] [.idx jJ dK,.bi .tuple [ae 2]],.asg (.one 3)<|.list [],.whl (.cmp .lt Kv<|.bi .len [.pl<|.var 9]) Mg [],.asg (.one 4)<|.list [],.for_ (.tup [5,6]) .enum [ae 9] Ml [5,6],.ret<|.tup [.bi .tuple [(.pl<|.var 3)],ae 4]]],0,[]⟩
noncomputable def rz:Fn:=⟨3,3,[.ret<|.idx (.call 12 [ae 0,ae 1,ae 2]) dK],0,[]⟩
noncomputable def Fb:Fn:=⟨3,3,[.ret<|.idx (.call 12 [ae 0,ae 1,ae 2]) cY],0,[]⟩
noncomputable def rF:Fn:=⟨2,2,[.iff (.cmp .lt (ae 1)<|.bi .len [ae 0]) [.ret<|.idx (ae 0)<|ae 1] [],.ret dK],0,[]⟩
noncomputable def Be:Fn:=⟨1,2,[.asg (.one 1)<|.op2 .mod (.op2 .add (.op2 .mul (ae 0)<|gK 48271)<|gK 11)<|gK 2147483647,.ret<|.op2 .mod (.op2 .mul (ae 1)<|ae 1)<|gK 2147483629],0,[]⟩
noncomputable abbrev l7:Ex:=.lit<|.int 3
noncomputable abbrev BE:Ex:=.op2 .pow (gK 10)<|gK 18
noncomputable abbrev l9:Ex:=.lit<|.int 4
noncomputable abbrev Fy:Ex:=.op2 .fdiv (ae 0)<|gK 16
noncomputable abbrev ue:Ex:=.lit<|.int 6
noncomputable abbrev KB:Ex:=.op2 .mod (ae 0)<|gK 16
noncomputable abbrev Bw:Ex:=.lit<|.int 5
noncomputable def xe:Fn:=⟨1,3,[.asg (.one 1)<|.list [dK,cY,f8,l7,Bw,.neg cY,.neg l9,.tup [],.tup [cY],.tup [f8,dK],.tup [cY,f8,l7],.tup [(.tup []),cY],.tup [(.tup [cY,f8]),(.tup [l7])],.tup [l9,(.tup [Bw,(.tup [ue])])]],.iff (.cmp .eq KB<|gK 14) [.ret<|.op2 .add (.op2 .sub (.op2 .mod Fy<|.op2 .sub (.op2 .mul f8 BE) cY) BE) cY] [],.iff (.cmp .eq KB<|gK 15) [.ret<|.bi .tuple [.comp (.op2 .mod Fy<|.op2 .add (ae 2) f8) (.one 2) .range [(.op2 .mod Fy<|gK 9)] []]] [],.ret<|.idx (ae 1) KB],0,[]⟩
noncomputable abbrev MC:List St:=[.iff (.not<|.call 18 [.idx (ae 0)<|ae 2,.idx (ae 1)<|ae 2]) [.ret gF] []]
noncomputable def Bc:Fn:=⟨2,3,[.iff uk [.iff (.bo false [.not BA,.cmp .ne (.bi .len [ae 0]) BC]) [.ret gF] [],.for_ (.one 2) .range [BC] MC [2],.ret kO] [],.iff (.bi (.isi .str) [ae 1]) [.ret<|.bo true [.bi (.isi .str) [ae 0],.cmp .eq (ae 0)<|ae 1]] [],.ret<|.bo true [.bi (.isi .int) [ae 0],.not<|.bi (.isi .bool) [ae 0],.cmp .eq (ae 0)<|ae 1]],0,[]⟩
noncomputable abbrev SP:List St:=[.asg (.one 6)<|.idx (ae 1)<|.op2 .mod (.op2 .add (.op2 .fdiv (ae 0)<|gK 64)<|ae 5)<|.idx (.list [gK 26,gK 36])<|.bi .int [.cmp .gt (ae 3) dK],.app (.var 4)<|.op2 .add (.op2 .add (.op2 .mul (.lit<|S [109])<|ae 3)<|ae 6)<|.op2 .mul (.lit<|S [109])<|.op2 .sub (.op2 .sub (ae 2) cY)<|ae 3]
noncomputable abbrev ma:Ex:=.lit<|.int 12
noncomputable abbrev Oo:Ex:=.idx (ae 1)<|.op2 .mod (.op2 .add (.op2 .fdiv (ae 0)<|gK 9)<|ae 7) ma
noncomputable abbrev uf:Ex:=.lit<|.int 8
noncomputable def xj:Fn:=⟨1,8,[.iff (.cmp .eq (.op2 .mod (ae 0)<|gK 9) uf) [.asg (.one 1)<|.list [.lit<|S [105,102,115],.lit<|S [108,105,115,116,120],.lit<|S [112,108,117,115,50],.lit<|S [114,101,102,117,115,101,115],.lit<|S [114,101,115,116,101,100],.lit<|S [100,111,119,110,115],.lit<|S [115,97,109,101,49],.lit<|S [106,111,105,110,115],.lit<|S [111,118,101,114,115],.lit<|S [102,105,114,115,116,115]],.asg (.one 1)<|.op2 .add (ae 1)<|.list [.lit<|S [101,109,112,116,121,120],.lit<|S [97,57]],.ret<|.comp Oo (.one 7) .range [ma] []] [],.asg (.one 2)<|.op2 .add cY<|.op2 .mod (ae 0) uf,.asg (.one 3)<|.op2 .mod (.op2 .fdiv (ae 0) uf)<|ae 2,.asg (.one 1)<|.lit<|S [97,98,99,100,101,102,103,104,105,106,107,108,109,110,111,112,113,114,115,116,117,118,119,120,121,122,48,49,50,51,52,53,54,55,56,57],.asg (.one 4)<|.list [],.for_ (.one 5) .range [ma] SP [5,6],.ret<|ae 4],0,[]⟩
noncomputable def E9:Fn:=⟨2,3,[.asg (.one 2)<|.list [dK,cY,f8,.tup [],.tup [cY],.tup [f8,dK],.tup [(.tup []),cY],l7],.iff (.cmp .eq (ae 1) cY) [.asg (.one 2)<|.list [l7,.neg cY,.tup [cY,f8],dK]] [],.iff (.cmp .eq (ae 1) f8) [.asg (.one 2)<|.list [.tup [dK,(.tup [cY,(.tup [f8])])],.neg l9,f8,.tup []]] [],.ret<|.idx (ae 2)<|.op2 .mod (ae 0)<|.bi .len [ae 2]],0,[]⟩
noncomputable abbrev pw:Ex:=.lit<|S [114,101,115,116]
noncomputable abbrev Bx:Ex:=.lit<|.int 7
noncomputable def Ba:Fn:=⟨3,7,[.asg (.one 3)<|.op2 .mod (.op2 .fdiv (ae 0) Bw) uf,.asg (.one 4)<|.call 16 [ae 0],.iff (.bo false [.cmp .eq (ae 1)<|.list [],.cmp .eq (ae 3) dK]) [.ret<|.tup [iO,.call 20 [ae 4,(.op2 .mod (.bi .len [ae 2]) l7)]]] [],.asg (.one 5)<|.tup [vD,.idx (ae 1)<|.op2 .mod (ae 4) BC],.iff (.cmp .lt (ae 3) l7) [.ret<|ae 5] [],.asg (.one 6)<|.idx (.list [rL,mQ,pw,pw,rL])<|.op2 .sub (ae 3) l7,.iff (.bo true [.cmp .eq (ae 3) Bx,.cmp .eq (.op2 .mod (.op2 .fdiv (ae 4) Bx) l7) dK]) [.ret<|.tup [iZ,pw,.tup [(.tup [iZ,pw,(.tup [ae 5])])]]] [],.ret<|.tup [iZ,ae 6,.tup [ae 5]]],0,[]⟩
noncomputable abbrev On:Ex:=.call 16 [.op2 .add (ae 0)<|.op2 .mul (gK 7919)<|ae 7]
noncomputable abbrev y0:List St:=[.app (.var 6)<|.call 25 [On,ae 2,ae 3,ae 4,ae 5]]
noncomputable abbrev Fu:Ex:=.bi .tuple [.pl<|.var 6]
noncomputable def xg:Fn:=⟨6,8,[.asg (.one 6)<|.list [],.for_ (.one 7) .range [ae 1] y0 [7],.ret Fu],0,[]⟩
noncomputable abbrev Hv:List St:=[.asg (.one 8) On,.iff (.idx (.idx (ae 5) f8)<|ae 7) [.app (.var 6)<|.call 21 [ae 8,ae 3,ae 4]] [.app (.var 6)<|.call 25 [ae 8,ae 1,ae 2,ae 3,ae 4]]]
noncomputable def Bj:Fn:=⟨5,9,[.asg (.one 5)<|.idx (ae 4)<|.op2 .mod (ae 0)<|.bi .len [ae 4],.asg (.one 6)<|.list [],.for_ (.one 7) .range [.bi .len [(.idx (ae 5) cY)]] Hv [7,8],.ret<|.tup [rJ,.idx (ae 5) dK,Fu]],0,[]⟩
noncomputable abbrev Fw:Ex:=.lit<|S [111,118,101,114]
noncomputable def Kj:Fn:=⟨5,7,[.asg (.one 5)<|.list [Fx,.lit<|S [109,105,110,117,115],KA,Fw,Fv,Kz,BB,mQ,pw,ul,rL,pr],.asg (.one 5)<|.idx (ae 5)<|.op2 .mod (ae 0) ma,.asg (.one 6) f8,.iff (.cmp .isin (ae 5)<|.tup [mQ,pw,ul,rL]) [.asg (.one 6) cY] [],.iff (.cmp .eq (ae 5) pr) [.asg (.one 6)<|.idx (.list [dK,cY,f8,l7,uf,Bw,cY,f8])<|.op2 .mod (.op2 .fdiv (ae 0) ma) uf] [],.iff (.cmp .gt (ae 6) l7) [.asg (.one 1) dK] [],.ret<|.tup [iZ,ae 5,.call 22 [(.call 16 [ae 0]),ae 6,ae 1,ae 2,ae 3,ae 4]]],0,[]⟩
noncomputable def Bg:Fn:=⟨5,7,[.asg (.one 5)<|.op2 .mod (.op2 .fdiv (ae 0) l7)<|gK 13,.asg (.one 6)<|.call 16 [ae 0],.iff (.bo false [.cmp .eq (ae 1) dK,.cmp .lt (ae 5) l7]) [.iff (.bo true [.cmp .ne (ae 2)<|.list [],.cmp .gt (.op2 .mod (ae 6) l9) dK]) [.ret<|.tup [vD,.idx (ae 2)<|.op2 .mod (.op2 .fdiv (ae 6) l9)<|.bi .len [ae 2]]] [],.ret<|.tup [iO,.call 17 [(.op2 .fdiv (ae 6) l9)]]] [],.iff (.cmp .lt (ae 5) ue) [.ret<|.op2 .add (.tup [mc])<|.call 22 [ae 6,l7,xr,ae 2,ae 3,ae 4]] [],.iff (.cmp .lt (ae 5)<|gK 9) [.ret<|.call 24 [ae 6,xr,ae 2,ae 3,ae 4]] [],.iff (.cmp .lt (ae 5) ma) [.ret<|.call 23 [ae 6,xr,ae 2,ae 3,ae 4]] [],.ret<|.tup [kN,.idx (.list [xt,BD,KD,Fz,FC,FA])<|.op2 .mod (ae 6) ue]],0,[]⟩
noncomputable abbrev Pz:List St:=[.asg (.one 8)<|.cmp .eq (.op2 .mod (.op2 .fdiv (ae 4)<|.idx (.list [Bx,gK 14,gK 28,gK 56,gK 112,gK 224])<|ae 7) f8) cY,.app (.var 6)<|.bo true [ae 8,.cmp .lt (.bi .count [(.pl<|.var 6),kO]) f8]]
noncomputable abbrev Oq:Ex:=.idx (.list [cY,f8,l7,f8,dK,ue,l7])<|.op2 .mod (ae 4) Bx
noncomputable abbrev Ft:Ex:=.op2 .add f8<|ae 3
noncomputable abbrev Om:Ex:=.op2 .add cY<|.op2 .mod (.call 15 [ae 0,cY]) l9
noncomputable def xk:Fn:=⟨1,10,[.asg (.one 1)<|.call 19 [.call 15 [ae 0,dK]],.asg (.one 2)<|.list [],.for_ (.one 3) .range [Om] [.asg (.one 4)<|.call 15 [ae 0,Ft],.asg (.one 5) Oq,.asg (.one 6)<|.list [],.for_ (.one 7) .range [ae 5] Pz [7,8],.app (.var 2)<|.tup [.idx (ae 1)<|ae 3,(.bi .tuple [(.comp (.idx (ae 1)<|.op2 .mod (.op2 .add Ft<|ae 9) ma) (.one 9) .range [ae 5] [])]),Fu]] [3,4,5,6,7,8],.ret<|ae 2],0,[]⟩
noncomputable abbrev Bz:Ex:=.bi .len [ae 5]
noncomputable abbrev uV:List St:=[.asg (.tup [4,5,6])<|.idx (ae 1)<|ae 3,.asg (.one 7)<|.comp (.idx (ae 5)<|ae 12) (.one 12) .range [Bz] [.idx (ae 6)<|ae 12],.asg (.one 8)<|.call 16 [(.op2 .add (.op2 .mul (.call 15 [ae 0,.op2 .add ue<|ae 3])<|gK 977)<|ae 3)],.asg (.one 9)<|.call 25 [ae 8,(.op2 .add cY<|.op2 .mod (.op2 .fdiv (.call 15 [ae 0,gK 10])<|.op2 .add (ae 3) cY) l7),.bi .list [ae 5],ae 7,ae 1],.iff (.bo true [(.cmp .gt (.op2 .mod (.op2 .fdiv (.call 15 [ae 0,gK 11])<|.op2 .add (ae 3) cY) l7) dK),.cmp .gt Bz dK]) [.asg (.one 10)<|.call 16 [.op2 .add (ae 8)<|gK 31],.asg (.one 11)<|.tup [vD,.idx (ae 5)<|.op2 .mod (ae 10) Bz],.iff (.cmp .eq (.op2 .mod (.op2 .fdiv (ae 10) uf) f8) cY) [.asg (.one 11)<|.tup [iZ,ul,.tup [ae 11]]] [],.asg (.one 9)<|.tup [mc,ae 11,ae 9,.call 25 [ae 10,f8,(.bi .list [ae 5]),ae 7,ae 1]]] [],.app (.var 2)<|.tup [ae 4,ae 5,ae 9]]
noncomputable def rC:Fn:=⟨2,13,[.asg (.one 2)<|.list [],.for_ (.one 3) .range [BC] uV [3,4,5,6,7,8,9,10,11],.ret<|.bi .tuple [.pl<|.var 2]],0,[]⟩
noncomputable abbrev Te:List St:=[.asg (.one 4)<|.call 15 [ae 0,.op2 .add ma<|ae 3],.app (.var 2)<|.call 20 [ae 4,.op2 .mod Om l7]]
noncomputable def t8:Fn:=⟨2,5,[.asg (.one 2)<|.list [],.for_ (.one 3) .range [ae 1] Te [3,4],.ret<|.bi .tuple [.pl<|.var 2]],0,[]⟩
noncomputable def rB:Fn:=⟨1,2,[.ret<|.bi .dict [.comp (.tup [iP,(.idx (ae 1) f8)]) (.one 1) .seq [ae 0] []]],0,[]⟩
noncomputable abbrev ug:Ex:=.lit<|S [120]
noncomputable abbrev Fq:Ex:=.lit<|S [116,119]
noncomputable abbrev By:Ex:=.lit<|S [107]
noncomputable abbrev Fp:Ex:=.lit<|S [109,97]
noncomputable def rA:Fn:=⟨1,12,[.asg (.one 1)<|.call 15 [ae 0,gK 19],.asg (.one 2)<|.tup [vD,ug],.asg (.one 3)<|.tup [vD,By],.asg (.one 4)<|.tup [iO,.op2 .sub BE cY],.asg (.one 5)<|.list [.tup [kN,FC],.tup [iZ,Fw,(.tup [ae 2,(.tup [iO,dK])])],.tup [rJ,Fp,(.tup [ae 2,ae 3])],ae 2,.tup [iO,cY]],.asg (.one 5)<|.op2 .add (ae 5)<|.list [.tup [iZ,mQ,(.tup [ae 2])],.tup [rJ,Fq,(.tup [ae 2,(.tup [iO,cY])])],.tup [iZ,Fx,(.tup [ae 4,ae 3])]],.asg (.one 5)<|.op2 .add (ae 5)<|.list [.tup [iZ,KA,(.tup [ae 4,(.tup [iO,f8])])],.tup [iZ,Fv,(.tup [ae 3,ae 2])]],.asg (.one 5)<|.op2 .add (ae 5)<|.list [(.tup [iZ,BB,.tup [ae 2,(.tup [iO,(.op2 .mul (.tup [dK])<|gK 48)])]]),(.tup [iZ,BB,.tup [ae 3,(.tup [iO,(.op2 .mul (.tup [dK])<|gK 49)])]])],.asg (.one 6)<|.list [.tup [iZ,mQ,(.tup [ae 3])],.tup [iZ,pw,(.tup [ae 3])],.tup [iZ,rL,(.tup [ae 3])],.tup [kN,Fz],ae 3],.asg (.one 6)<|.op2 .add (ae 6)<|.list [(.tup [iZ,mQ,.tup [(.tup [iZ,pw,(.tup [ae 3])])]]),.tup [iO,l7]],.asg (.one 7)<|.idx (ae 5)<|.op2 .mod (ae 1) ma,.asg (.one 8)<|.idx (ae 6)<|.op2 .mod (.op2 .fdiv (ae 1) ma) Bx,.asg (.one 9)<|.tup [vD,.lit<|S [121]],.asg (.one 10)<|.tup [vD,.lit<|S [110]],.asg (.one 11)<|.list [.tup [iZ,Fx,(.tup [ae 9,ae 10])],.tup [iZ,pr,(.tup [ae 10,ae 9,ae 10])],.tup [iZ,Fw,(.tup [ae 9,ae 10])],.tup [rJ,Fp,(.tup [ae 9,ae 10])]],.asg (.one 11)<|.idx (ae 11)<|.op2 .mod (.op2 .fdiv (ae 1)<|gK 84) l9,.iff (.cmp .eq (.op2 .mod (.op2 .fdiv (ae 1)<|gK 336) f8) cY) [.asg (.one 11)<|.tup [mc,.tup [iZ,ul,(.tup [ae 10])],ae 9,ae 11]] [],.ret<|.tup [.tup [Fp,(.tup [ug,By]),(.tup [rJ,Fq,(.tup [ae 7,ae 8])])],.tup [Fq,(.tup [(.lit<|S [121]),(.lit<|S [110])]),ae 11]]],0,[]⟩
noncomputable def xm:Fn:=⟨1,2,[.iff (.cmp .eq (.op2 .mod (.call 15 [ae 0,gK 18]) l9) cY) [.ret<|.tup [(.list [.tup [Fp,(.tup [ug,By]),(.tup [gF,kO])],.tup [Fq,(.tup [(.lit<|S [121]),(.lit<|S [110])]),(.tup [gF,kO])]]),.call 30 [ae 0]]] [],.asg (.one 1)<|.call 26 [ae 0],.ret<|.tup [ae 1,.call 27 [ae 0,ae 1]]],0,[]⟩
noncomputable abbrev SM:List St:=[.asg (.one 7)<|.tup [iZ,pr,.tup [ae 7]]]
noncomputable def t7:Fn:=⟨3,10,[.asg (.one 3)<|.call 15 [ae 0,gK 20],.iff (.cmp .ne (.op2 .mod (ae 3) ue) cY) [.ret<|.tup [ae 1,ae 2]] [],.asg (.tup [4,5,6]) iP,.asg (.one 7)<|.tup [rJ,ae 4,.bi .tuple [(.comp (.tup [vD,ae 9]) (.one 9) .seq [ae 5] [])]],.for_ (.one 8) .range [.op2 .add cY<|.op2 .mod (.op2 .fdiv (ae 3) ue)<|gK 17] SM [8],.ret<|.tup [(.op2 .add (.list [.tup [(.lit<|S [116,111,112]),ae 5,ae 6]])<|ae 1),(.op2 .add (.tup [.tup [(.lit<|S [116,111,112]),ae 5,ae 7]])<|ae 2)]],0,[]⟩
noncomputable def t6:Fn:=⟨1,2,[.iff BA [.ret<|.op2 .add cY<|.bi .sum [.comp (.call 33 [ae 1]) (.one 1) .seq [ae 0] []]] [],.ret cY],0,[]⟩
noncomputable def E8:Fn:=⟨1,1,[.iff BA [.ret<|.tup [.cmp .le (.call 33 [ae 0])<|gK 50,(.idx (.list [ae 0,FA])<|.bi .int [.cmp .gt (.call 33 [ae 0])<|gK 50])]] [],.ret<|.tup [.cmp .lt (.bi .abs [ae 0]) BE,(.idx (.list [ae 0,FA])<|.bi .int [.cmp .ge (.bi .abs [ae 0]) BE])]],0,[]⟩
noncomputable def rE:Fn:=⟨3,3,[.iff (.bo false [uk,.bi (.isi .tup) [ae 2]]) [.ret<|.tup [gF,xt]] [],.iff (.cmp .eq (ae 0) Fw) [.iff (.cmp .eq (ae 2) dK) [.ret<|.tup [gF,FC]] [],.ret<|.call 34 [.op2 .fdiv (ae 1)<|ae 2]] [],.iff (.cmp .eq (ae 0) Fv) [.ret<|.tup [kO,.bi .int [(.cmp .lt (ae 1)<|ae 2)]]] [],.ret<|.call 34 [.idx (.bi (.disp [⟨#[112,108,117,115]⟩,⟨#[109,105,110,117,115]⟩,⟨#[116,105,109,101,115]⟩]) [(.op2 .add (ae 1)<|ae 2),(.op2 .sub (ae 1)<|ae 2),(.op2 .mul (ae 1)<|ae 2)])<|ae 0]],0,[]⟩
noncomputable def xf:Fn:=⟨2,2,[.iff (.cmp .eq (ae 0) rL) [.iff uk [.ret<|.tup [gF,xt]] [],.ret<|.tup [.cmp .gt (ae 1) dK,.idx (.list [xr,Fz])<|.bi .int [(.cmp .le (ae 1) dK)]]] [],.iff (.not uk) [.ret<|.tup [gF,BD]] [],.iff (.cmp .eq (ae 0) ul) [.ret<|.tup [kO,.bi .int [Fk]]] [],.iff Fk [.ret<|.tup [gF,KD]] [],.iff (.cmp .eq (ae 0) mQ) [.ret<|.tup [kO,iP]] [],.ret<|.tup [kO,.slc (ae 1) cY rK]],0,[]⟩
noncomputable def Bh:Fn:=⟨2,2,[.iff (.cmp .eq (ae 0) pr) [.ret<|.call 34 [.bi .tuple [ae 1]]] [],.iff (.cmp .eq (ae 0) Kz) [.ret<|.tup [kO,.bi .int [(.cmp .eq iP ui)]]] [],.iff (.cmp .isin (ae 0)<|.tup [mQ,pw,ul,rL]) [.ret<|.call 36 [ae 0,iP]] [],.iff (.cmp .ne (ae 0) BB) [.ret<|.call 35 [ae 0,iP,ui]] [],.iff (.not<|.bi (.isi .tup) [ui]) [.ret<|.tup [gF,BD]] [],.ret<|.call 34 [.op2 .add (.tup [iP]) ui]],0,[]⟩
noncomputable def xi:Fn:=⟨1,3,[.asg (.one 1)<|.comp (ae 2) (.one 2) .seq [ae 0] [.cmp .ne (.idx (ae 2) dK) iO],.ret<|.idx (.op2 .add (ae 1)<|.list [.tup [iO,dK]]) dK],0,[]⟩
noncomputable abbrev Fs:Ex:=.idx (.callp 38 5) dK
noncomputable abbrev Fo:Ex:=.idx (ae 7) dK
noncomputable abbrev Nh:List St:=[.asg (.one 7)<|.call 40 [.idx uh<|ae 6,ae 1,ae 2,.pl<|.var 3],.asg (.one 8)<|.idx (.idx (ae 2) j9)<|ae 6,.iff (.bo true [ae 8,.cmp .eq Fo kN,.cmp .ne Fs iO]) [.ret<|.tup [iZ,pr,.bi .tuple [(.op2 .add (.pl<|.var 5)<|.list [ae 7])]]] [],.iff (.bo true [.cmp .eq Fo kN,.cmp .eq Fs iO]) [.ret<|ae 7] [],.iff (ae 8) [.app (.var 4)<|.idx (ae 7) cY] [.app (.var 5)<|ae 7]]
noncomputable abbrev Ky:Ex:=.bi .tuple [.pl<|.var 4]
noncomputable def mP:Fn:=⟨4,9,[.asg (.one 4)<|.list [],.asg (.one 5)<|.list [],.for_ (.one 6) .range [.bi .len [uh]] Nh [6,7,8],.iff (.cmp .notin (.tup [j9,Ky])<|.pl<|.var 3) [.app (.var 3)<|.tup [j9,Ky]] [],.ret<|.tup [rJ,.tup [j9,Ky],.bi .tuple [(.pl<|.var 5)]]],0,[]⟩
noncomputable abbrev Nf:List St:=[.app (.var 5)<|.call 40 [ae 6,ae 1,ae 2,.pl<|.var 3],.iff (.cmp .eq Fs kN) [.ret<|.callp 38 5] []]
noncomputable abbrev uj:Ex:=.idx (ae 4) cY
noncomputable def Bf:Fn:=⟨4,10,[.iff (.cmp .isin jJ<|.tup [iO,kN]) [.ret<|ae 0] [],.iff (.cmp .eq jJ vD) [.iff (.cmp .isin j9<|ae 1) [.ret<|.tup [iO,.idx (ae 1) j9]] [.ret<|ae 0]] [],.iff (.cmp .eq jJ rJ) [.ret<|.call 39 [ae 0,ae 1,ae 2,.pl<|.var 3]] [],.iff (.cmp .eq jJ mc) [.asg (.one 4)<|.call 40 [j9,ae 1,ae 2,.pl<|.var 3],.iff (.cmp .eq (.idx (ae 4) dK) kN) [.ret<|ae 4] [],.iff (.cmp .ne (.idx (ae 4) dK) iO) [.ret<|.op2 .add (.tup [mc,ae 4])<|.bi .tuple [.comp (.call 40 [ae 8,ae 1,ae 2,(.pl<|.var 3)]) (.one 8) .seq [(.slc (ae 0) f8 rK)] []]] [],.iff (.bi (.isi .tup) [uj]) [.ret<|.tup [kN,xt]] [],.ret<|.call 40 [.idx (ae 0)<|.op2 .add f8<|.bi .int [(.cmp .eq uj dK)],ae 1,ae 2,.pl<|.var 3]] [],.asg (.one 5)<|.list [],.for_ (.one 6) .seq [uh] Nf [6],.iff (.cmp .ne Fs iO) [.ret<|.tup [iZ,j9,.bi .tuple [(.pl<|.var 5)]]] [],.asg (.one 7)<|.call 37 [j9,.comp (.idx (ae 9) cY) (.one 9) .seq [ae 5] []],.ret<|.tup [.idx (.list [kN,iO])<|.bi .int [Fo],.idx (ae 7) cY]],0,[]⟩
noncomputable def rG:Fn:=⟨3,7,[.iff (.cmp .eq jJ rJ) [.asg (.one 3)<|.bi .tuple [.comp (.call 41 [ae 4,ae 1,ae 2]) (.one 4) .seq [uh] []],.ret<|.tup [rJ,.idx (.idx (ae 2)<|.bi .index [ae 1,j9]) dK,ae 3]] [],.iff (.cmp .eq jJ iZ) [.ret<|.tup [iZ,j9,.bi .tuple [(.comp (.call 41 [ae 5,ae 1,ae 2]) (.one 5) .seq [uh] [])]]] [],.iff (.cmp .eq jJ mc) [.ret<|.op2 .add (.tup [mc])<|.bi .tuple [.comp (.call 41 [ae 6,ae 1,ae 2]) (.one 6) .seq [(.slc (ae 0) cY rK)] []]] [],.ret<|ae 0],0,[]⟩
noncomputable abbrev xq:Ex:=.lit<|S [98]
noncomputable def rD:Fn:=⟨0,10,[.asg (.one 0)<|.tup [vD,ug],.asg (.one 1)<|.tup [rJ,xq,.tup [ae 0,(.tup [iO,cY])]],.asg (.one 2)<|.tup [rJ,xq,.tup [ae 1,(.tup [iO,f8])]],.asg (.one 3)<|.tup [rJ,xq,.tup [ae 0,(.tup [iO,l7])]],.asg (.one 4)<|.tup [(.tup [.lit<|S [97],.tup [ug],.tup [mc,ae 2,ae 3,(.tup [rJ,xq,(.tup [ae 0,(.tup [iO,l9])])])]]),.tup [xq,(.tup [ug,By]),ae 0]],.asg (.one 5)<|.comp (.slc (ae 8) cY rK) (.one 8) .seq [.call 14 [ae 4,(.bi (.disp [⟨#[97]⟩,⟨#[98]⟩]) [(.tup [gF]),(.tup [gF,kO])]),(.tup [])]] [],.asg (.one 6)<|.tup [rJ,.lit<|S [97],.tup [ae 0,(.tup [iZ,mQ,(.tup [(.tup [iO,cY])])])]],.asg (.one 7)<|.call 13 [.tup [(.tup [(.lit<|S [97]),(.tup [ug,By]),ae 6])],.bi (.disp [⟨#[97]⟩]) [(.tup [gF,kO])],.tup [Bw]],.iff (.not<|.call 18 [.idx Fo f8,.tup [iZ,pr,(.tup [ae 0,(.tup [kN,BD])])]]) [.ret gF] [],.ret<|.cmp .eq (ae 5)<|.op2 .add (.list [.tup [(.lit<|S [97]),(.tup [])]])<|.comp (.tup [xq,.tup [ae 9]]) (.one 9) .seq [.tup [cY,f8,l7,l9]] []],0,[]⟩
noncomputable abbrev Kx:Ex:=.bi .len [.pl<|.var 7]
noncomputable abbrev M8:List St:=[.asg (.tup [8,9])<|.idx (.pl<|.var 6) Kx,.asg (.one 10)<|.idx (.comp (ae 15) (.one 15) .seq [ae 2] [.cmp .eq (.idx (ae 15) dK)<|ae 8]) dK,.asg (.one 11)<|.idx (ae 3)<|ae 8,.asg (.one 12)<|.comp (.idx (.idx (ae 10) cY)<|ae 16) (.one 16) .range [.bi .len [ae 11]] [.idx (ae 11)<|ae 16],.app (.var 7)<|.call 40 [.idx (ae 10) f8,.bi .dzip [ae 12,ae 9],ae 3,.pl<|.var 6]]
noncomputable abbrev Nc:List St:=[.iff (.not<|.call 18 [.idx (.idx (ae 5)<|ae 13) f8,.call 41 [(.idx (.pl<|.var 7)<|ae 13),ae 6,ae 5]]) [.ret gF] []]
noncomputable abbrev Kw:Ex:=.bi .len [.pl<|.var 6]
noncomputable def Oc:Fn:=⟨1,18,[.asg (.tup [1,2])<|.call 31 [ae 0],.asg (.tup [1,2])<|.call 32 [ae 0,ae 1,ae 2],.asg (.one 3)<|.call 29 [ae 1],.asg (.one 4)<|.call 28 [ae 0,.bi .len [(.comp (ae 14) (.one 14) .seq [(.idx iP f8)] [ae 14])]],.asg (.one 5)<|.call 13 [ae 2,ae 3,ae 4],.asg (.one 6)<|.list [.tup [(.idx iP dK),ae 4]],.asg (.one 7)<|.list [],.whl (.cmp .lt Kx Kw) M8 [8,9,10,11,12],.iff (.bo false [.cmp .ne Bz Kw,.cmp .ne (.comp (.slc (ae 17) cY rK) (.one 17) .seq [(.call 14 [ae 2,ae 3,ae 4])] [])<|.pl<|.var 6]) [.ret gF] [],.for_ (.one 13) .range [Bz] Nc [13],.ret<|.call 42 []],0,[]⟩
noncomputable abbrev NB:List St:=[.setI (.var 0) (ae 6)<|.tup [ae 7,ae 8]]
noncomputable def A8:Fn:=⟨6,10,[.asg (.one 0)<|.bi .dict0 [],.for_ (.tup [6,7,8]) .seq [ae 4] NB [6,7,8],.asg (.one 1)<|ae 5,.asg (.one 2)<|.list [],.tab0 3],4,[0,1,2,3]⟩
noncomputable def rr:Fn:=⟨6,8,[.asg (.one 6)<|.tup [ae 4,ae 5],.iff (.tin 3<|ae 6) [.tset 3 (ae 6)<|.bi .len [.pl<|.var 2],.app (.var 2)<|ae 6] [],.ret<|.op2 .add (.lit<|S [102])<|.bi .str [.tget 3<|ae 6]],4,[]⟩
noncomputable abbrev Ov:List St:=[.asg (.one 10)<|.mcall 49 [0,1,2,3] [ae 9,ae 6],.iff (.bo true [.cmp .eq (.idx (ae 10) dK) kN,.not<|ae 8]) [.ret<|ae 10] [],.asg (.one 8)<|.bo false [ae 8,.cmp .ne (.idx (ae 10) dK) iO],.app (.var 7)<|ae 10]
noncomputable def Ki:Fn:=⟨7,13,[.asg (.one 7)<|.list [],.asg (.one 8) gF,.for_ (.one 9) .seq [ae 5] Ov [9,10],.iff (ae 8) [.ret<|.tup [iZ,ae 4,.bi .tuple [(.pl<|.var 7)]]] [],.ret<|.call 11 [ae 4,.comp (.idx (ae 12) cY) (.one 12) .seq [ae 7] []]],4,[]⟩
noncomputable abbrev OI:List St:=[.asg (.one 12)<|.mcall 49 [0,1,2,3] [ae 10,ae 6],.iff (.bo true [.cmp .eq (.idx (ae 12) dK) kN,.not<|ae 9]) [.ret<|ae 12] [],.iff (.bo true [ae 11,.cmp .eq (.idx (ae 12) dK) kN]) [.ret<|.tup [iZ,pr,.bi .tuple [(.op2 .add (.pl<|.var 8)<|.list [ae 12])]]] [],.iff (ae 11) [.app (.var 7)<|.idx (ae 12) cY] [.app (.var 8)<|ae 12,.asg (.one 9)<|.bo false [ae 9,.cmp .ne (.idx (ae 12) dK) iO]]]
noncomputable def A9:Fn:=⟨7,14,[.asg (.one 7)<|.list [],.asg (.one 8)<|.list [],.asg (.one 9) gF,.for_ (.tup [10,11]) .zip [ae 5,.idx (ae 1)<|ae 4] OI [10,11,12],.ret<|.tup [rJ,.mcall 45 [0,1,2,3] [ae 4,(.bi .tuple [(.pl<|.var 7)])],.bi .tuple [(.pl<|.var 8)]]],4,[]⟩
noncomputable abbrev Ol:Ex:=.mcall 49 [0,1,2,3] [.idx (ae 4) l7,ae 5]
noncomputable abbrev Oj:Ex:=.mcall 49 [0,1,2,3] [.idx (ae 4) f8,ae 5]
noncomputable def tZ:Fn:=⟨6,8,[.asg (.one 6)<|.mcall 49 [0,1,2,3] [uj,ae 5],.iff (.cmp .eq (.idx (ae 6) dK) kN) [.ret<|ae 6] [],.iff (.cmp .ne (.idx (ae 6) dK) iO) [.ret<|.tup [mc,ae 6,Oj,Ol]] [],.iff (.bi (.isi .tup) [Fl]) [.ret<|.tup [kN,xt]] [],.iff (.cmp .eq Fl dK) [.ret Ol] [],.ret Oj],4,[]⟩
noncomputable def A7:Fn:=⟨6,8,[.asg (.one 6)<|.idx (ae 4) dK,.iff (.bo false [.cmp .eq (ae 6) iO,.cmp .eq (ae 6) kN]) [.ret<|ae 4] [],.iff (.cmp .eq (ae 6) vD) [.iff (.cmp .isin uj<|ae 5) [.ret<|.tup [iO,.idx (ae 5) uj]] [],.ret<|ae 4] [],.iff (.cmp .eq (ae 6) mc) [.ret<|.mcall 48 [0,1,2,3] [ae 4,ae 5]] [],.iff (.cmp .eq (ae 6) iZ) [.ret<|.mcall 46 [0,1,2,3] [uj,.idx (ae 4) f8,ae 5]] [],.ret<|.mcall 47 [0,1,2,3] [uj,.idx (ae 4) f8,ae 5]],4,[]⟩
noncomputable def o9:Fn:=⟨5,17,[.asg (.tup [5,6])<|.idx (.pl<|.var 2)<|ae 4,.asg (.tup [7,8])<|.idx (.pl<|.var 0)<|ae 5,.asg (.one 9)<|.idx (ae 1)<|ae 5,.asg (.one 10)<|.bi .dzip [.comp (ae 13) (.tup [13,14]) .zip [ae 7,ae 9] [ae 14],ae 6],.asg (.one 11)<|.bi .tuple [.comp (ae 15) (.tup [15,16]) .zip [ae 7,ae 9] [(.not<|ae 16)]],.ret<|.tup [.op2 .add (.lit<|S [102])<|.bi .str [ae 4],ae 11,.mcall 49 [0,1,2,3] [ae 8,ae 10]]],4,[]⟩
noncomputable def P:Pr:=⟨[EX,tU,nI,Kb],[rq,t9,xo,mO,Kk,rt,Bk,Kl,ua,xn,Fa,o8,A6,rz,Fb,rF,Be,xe,Bc,xj,E9,Ba,xg,Bj,Kj,Bg,xk,rC,t8,rB,rA,xm,t7,t6,E8,rE,xf,Bh,xi,mP,Bf,rG,rD,Oc,A8,rr,Ki,A9,tZ,A7,o9]⟩
noncomputable def nss:List VT:=[(["thing","room","is_number","left","part"] :VT),(["thing"] :VT),(["thing"] :VT),(["operation","one","other"] :VT),(["value"] :VT),(["operation","value"] :VT),(["value","other"] :VT),(["operation","values"] :VT),(["expression","parts","found","part"] :VT),(["expression","known"] :VT),(["program","sorting","name","parameters","body","known","call","part","is_known"] :VT),(["operation","values","value"] :VT),(["program","sorting","known","functions","triples","number","case"] :VT),(["program","sorting","known"] :VT),(["program","sorting","known"] :VT),(["_law_script","_law_k"] :VT),(["_law_pick","_law_more"] :VT),(["_law_pick","_law_some"] :VT),(["_law_found","_law_due","_law_k"] :VT),(["_law_cell","_law_some","_law_size","_law_place","_law_found","_law_k","_law_sign"] :VT),(["_law_pick","_law_way","_law_some"] :VT),(["_law_pick","_law_known","_law_heads_here","_law_way","_law_more","_law_name","_law_word"] :VT),(["_law_pick","_law_many","_law_deep","_law_names_here","_law_known","_law_heads_here","_law_found","_law_k"] :VT),(["_law_pick","_law_deep","_law_names_here","_law_known","_law_heads_here","_law_head","_law_parts_here","_law_k","_law_more"] :VT),(["_law_pick","_law_deep","_law_names_here","_law_known","_law_heads_here","_law_word","_law_many"] :VT),(["_law_pick","_law_deep","_law_names_here","_law_known","_law_heads_here","_law_way","_law_more"] :VT),(["_law_script","_law_names_here","_law_found","_law_k","_law_cell","_law_many","_law_wanted","_law_j","_law_known"] :VT),(["_law_script","_law_heads_here","_law_program_here","_law_k","_law_name","_law_params","_law_wanted","_law_known","_law_pick","_law_body","_law_more","_law_test"] :VT),(["_law_script","_law_many","_law_found","_law_k","_law_cell"] :VT),(["_law_heads_here"] :VT),(["_law_script","_law_cell","_law_x","_law_k","_law_great","_law_ones","_law_twos","_law_one","_law_two","_law_y","_law_n","_law_body"] :VT),(["_law_script","_law_heads_here"] :VT),(["_law_script","_law_heads_here","_law_program_here","_law_cell","_law_name","_law_params","_law_wanted","_law_body","_law_k"] :VT),(["_law_value_here"] :VT),(["_law_value_here"] :VT),(["_law_operation","_law_one","_law_other_here"] :VT),(["_law_operation","_law_value_here"] :VT),(["_law_operation","_law_values"] :VT),(["_law_parts_here","_law_others"] :VT),(["_law_form_here","_law_known","_law_sorting_here","_law_come","_law_values","_law_parts_here","_law_k","_law_part","_law_wanted"] :VT),(["_law_form_here","_law_known","_law_sorting_here","_law_come","_law_test","_law_parts_here","_law_one","_law_told"] :VT),(["_law_form_here","_law_come","_law_left_here","_law_parts_here"] :VT),(["_law_x","_law_one","_law_two","_law_three","_law_program_here","_law_found","_law_body","_law_left_here"] :VT),(["_law_script","_law_heads_here","_law_program_here","_law_sorting_here","_law_known","_law_left_here","_law_come","_law_bodies","_law_name","_law_values","_law_function","_law_wanted","_law_names_here","_law_k"] :VT),(["program","sorting","name","parameters","body"] :VT),(["name","known","case"] :VT),(["operation","parts","held","found","is_open","part","here"] :VT),(["name","parts","held","known","others","is_open","part","is_known","here"] :VT),(["expression","held","test"] :VT),(["expression","held","word"] :VT),(["number","name","known","parameters","body","flags","held","others"] :VT)]
noncomputable def gls:VT:=["GREAT","HEAVIEST","SINGLES","TAME"]
noncomputable def cls:VT:=[pY,bz,cu,bY,c8,bU,cH,mY]
noncomputable def hcs:VT:=[bz,cu,bY,c8,bU,cH]
end Lq
namespace Mv
open PySem PyProof.Rows
structure Tb where
 fn:List DefRec
 gl:VT
 cl:VT:=[]
 hc:VT:=[]
 m0:Nat:=0
 rb:List VS:=[]
 cr:Option ClsRec:=none
 an:VT:=[]
noncomputable def tb:Tb:=⟨recsOf Hq.view ++ (((clssOf Hq.view []).find? fun c=>c.name == ("Making" :Str)).elim [] (·.meths)).map (fun m=>⟨m.name,m.params,m.body,m.scope,default⟩),Lq.gls,Lq.cls,Lq.hcs,44,(Lq.P.fns.drop 44).map (·.rb),(clssOf Hq.view []).find? fun c=>c.name == ("Making" :Str),["functions","sorting","found","numbers"]⟩
structure Sc where
 names:List (Str×NameKind)
 vars:List (Str×Nat)
 hi:Nat
 sn:Str:=⟨#[]⟩
 ats:List (Str×Nat):=[]
def Sc.isG(V:Sc)(x:Str) :Prop:=V.names.lookup x=some .globalImplicit∧(x == ("__debug__" :Str))=false
def Sc.isV(V:Sc)(x:Str)(i:Nat) :Prop:=V.vars.lookup x=some i∧(x == ("__debug__" :Str))=false
structure Sc.isA(V:Sc)(x a:Str)(i:Nat):Prop where
 sn:x=V.sn
 at':V.ats.lookup a=some i
 db:(x == ("__debug__" :Str))=false
noncomputable def Sc.as(V:Sc):VS:=V.ats.map (·.2)
inductive PE(V:Sc):Expr->Nat->Prop
 |nm {x:Str} {pos:Pos} {i:Nat}:V.isV x i->PE V (.Name x pos) i
 |atr {x a:Str} {p pos:Pos} {i:Nat}:V.isA x a i->PE V (.Attribute (.Name x p) a pos) i
inductive cP:Const->D->Prop
 |none:cP .none .none
 |bool (b:Bool):cP (.bool b) (.bool b)
 |int (i:Int):cP (.int i) (.int i)
 |str (x:Str):PyData.strOk x=true->x.cps.size<=Sz->cP (.str x) (.str x)
noncomputable def zg:Cr->Operator
 |.add=>.Add|.sub=>.Sub|.mul=>.Mult|.fdiv=>.FloorDiv|.mod=>.Mod|.pow=>.Pow
noncomputable def B4(j:Bool):BoolOp:=match j with
 |true=>.And
 |false=>.Or
mutual
noncomputable def aY:Ex->VS
 |.lit _=>[]|.gl _=>[]|.var _=>[]|.pl _=>[]|.callp _ _=>[]
 |.mcall _ _ es=>bu es
 |.tin _ e=>aY e
 |.tget _ e=>aY e
 |.tup es=>bu es
 |.list es=>bu es
 |.op2 _ a b=>aY a++aY b
 |.neg a=>aY a
 |.not a=>aY a
 |.cmp _ a b=>aY a++aY b
 |.cmp2 _ _ a b c=>aY a++aY b++aY c
 |.bo _ es=>bu es
 |.idx a i=>aY a++aY i
 |.slc a l h=>aY a++aY l++aY h
 |.call _ es=>bu es
 |.bi _ es=>bu es
 |.comp e t _ bG cs=>aQ t++aY e++bu bG++bu cs
noncomputable def bu:List Ex->VS
 |[]=>[]
 |e::es=>aY e++bu es
end
noncomputable def SV:Ex->VS
 |.pl (.var i)=>[i]
 |_=>[]
def Apart(x:Ex)(bv:VS):Prop:= ∀i∈SV x,i∉bv
noncomputable def dF:Bi->Str
 | .len=>"len" | .isi _=>"isinstance" | .sum=>"sum" | .abs=>"abs" | .int=>"int" | .tuple=>"tuple" | .list=>"list" | .str=>"str" | .dict=>"dict"
 | _=>"len"
noncomputable def Bi.one:Bi->Bool
 |.len=>true|.sum=>true|.abs=>true|.int=>true|.tuple=>true|.list=>true|.str=>true|.dict=>true
 |_=>false
noncomputable def il:Expr->Bool
 |.Name _ _=>true
 |.Constant _ _ _=>true
 |_=>false
inductive KS:List (Option Expr)->VT->Prop
 |nil:KS [] []
 |cons {k:Str} {kk:Nat} {p:Pos} {es:List (Option Expr)} {ks:VT}:KS es ks->KS (some (.Constant (.str k) kk p)::es) (k::ks)
def PZ(ks:VT):Prop:= ∀k∈ks,PyData.strOk k=true/\k.cps.size<=Sz
noncomputable def Ex.noPl:Ex->Bool
 |.pl _=>false
 |_=>true
inductive BX(V:Sc):Expr->Bi->VV->Prop
 | count {fC pos:Pos} {a k:Expr} :il a=true→il k=true→(fC.endLine == pos.line)=true→BX V (.Call (.Attribute a "count" fC) [k] [] pos) .count [a,k]
 | dzip {p p' pos gp:Pos} {a b:Expr} :V.isG "dict"→V.isG "zip"→BX V (.Call (.Name "dict" p) [.Call (.Name "zip" p') [a,b] [] gp] [] pos) .dzip [a,b]
 |dict0 {pos:Pos}:BX V (.Dict [] [] pos) .dict0 []
noncomputable def bM(scope:Scope)(V:Sc)(vs:VT)(i:Nat):Sc:=⟨scope.names,vs.zipIdx i++V.vars.filter λp=>decide<|scope.names.lookup p.1=some .free,i+vs.length,⟨#[]⟩,[]⟩
inductive CG(i:Nat):Expr->VT->Tgt->Prop
 |one {v:Str} {p:Pos}:CG i (.Name v p) [v] (.one i)
 |two {a b:Str} {pa pb p:Pos} {k:Nat}:CG i (.Tuple [.Name a pa,.Name b pb] k p) [a,b] (.tup [i,i+1])
structure ip(scope:Scope)(V:Sc)(vs:VT):Prop where
 kind:scope.kind = .function
 names:∀x∈scope.names,x.2 = .local->scope.names.lookup x.1=some .local
 cell:∀x∈scope.names,x.2≠ .cell
 loc:∀v∈vs,scope.names.lookup v=some .local
 vnd:vs.Nodup
 free:∀x∈scope.names,x.2=.free→scope.names.lookup x.1=some .free∧(x.1 == ("__classdict__" :Str))=false∧(∃i,V.vars.lookup x.1=some i)∧(V.names.lookup x.1=some .cell∨V.names.lookup x.1=some .free)
 nodup:((scope.names.filter λx=>x.2 == .free).map (·.1)).Nodup
noncomputable def gM.pairs:gM->Bool
 |.zip=>true
 |.enum=>true
 |_=>false
inductive Sy where
 |e (e:Expr) (x:Ex)
 |s (es:VV) (M:List Ex)
 |o (o:Option Expr) (x:Ex)
 |i (e:Expr) (it:gM) (bG:List Ex)
class inductive CQ:Sc->Sy->Prop
 |lit {V:Sc} {c:Const} {k:Nat} {pos:Pos} {d:D}:cP c d->CQ V (.e (.Constant c k pos)<|.lit d)
 |var {V:Sc} {x:Str} {pos:Pos} {i:Nat}:V.isV x i->CQ V (.e (.Name x pos)<|.var i)
 |pl {V:Sc} {x:Str} {pos:Pos} {i:Nat}:V.isV x i->CQ V (.e (.Name x pos)<|.pl<|.var i)
 |gl {V:Sc} {x:Str} {pos:Pos} {k:Nat}:V.isG x->tb.gl[k]?=some x->CQ V (.e (.Name x pos)<|.gl k)
 |tup {V:Sc} {es:VV} {k:Nat} {pos:Pos} {M:List Ex}:CQ V (.s es M)->M.length<=1000->CQ V (.e (.Tuple es k pos)<|.tup M)
 |list {V:Sc} {es:VV} {pos:Pos} {M:List Ex}:CQ V (.s es M)->M.length<=1000->CQ V (.e (.List es pos)<|.list M)
 |op2 {V:Sc} {a b:Expr} {pos:Pos} {o:Cr} {x y:Ex}:CQ V (.e a x)->CQ V (.e b y)->Apart x (aY y)->CQ V (.e (.BinOp a (zg o) b pos)<|.op2 o x y)
 |neg {V:Sc} {a:Expr} {pos:Pos} {x:Ex}:CQ V (.e a x)->CQ V (.e (.UnaryOp .USub a pos)<|.neg x)
 |not {V:Sc} {a:Expr} {pos:Pos} {x:Ex}:CQ V (.e a x)->CQ V (.e (.UnaryOp .Not a pos)<|.not x)
 |cmp {V:Sc} {a b:Expr} {pos:Pos} {o:Cm} {x y:Ex}:CQ V (.e a x)->CQ V (.e b y)->Apart x (aY y)->CQ V (.e (.Compare a [fk o] [b] pos)<|.cmp o x y)
 |cmp2 {V:Sc} {a b e:Expr} {pos:Pos} {o p:Cm} {x y z:Ex}:CQ V (.e a x)->CQ V (.e b y)->CQ V (.e e z)->CQ V (.e (.Compare a [fk o,fk p] [b,e] pos)<|.cmp2 o p x y z)
 |bo {V:Sc} {j:Bool} {es:VV} {pos:Pos} {M:List Ex}:CQ V (.s es M)->CQ V (.e (.BoolOp (B4 j) es pos)<|.bo j M)
 |idx {V:Sc} {a i:Expr} {pos:Pos} {x z:Ex}:CQ V (.e a x)->CQ V (.e i z)->Apart x (aY z)->CQ V (.e (.Subscript a i pos)<|.idx x z)
 |slc {V:Sc} {a:Expr} {lo hi:Option Expr} {p pos:Pos} {x l h:Ex}:CQ V (.e a x)->CQ V (.o lo l)->CQ V (.o hi h)->Apart x (aY l++aY h)->CQ V (.e (.Subscript a (.Slice lo hi none p) pos)<|.slc x l h)
 |call {V:Sc} {f:Nat} {d:DefRec} {p pos:Pos} {args:VV} {M:List Ex}:tb.fn[f]?=some d/\f<tb.m0->V.isG d.name->CQ V (.s args M)->args.length<=29->CQ V (.e (.Call (.Name d.name p) args [] pos)<|.call f M)
 |bi1 {V:Sc} {b:Bi} {p pos:Pos} {a:Expr} {x:Ex}:b.one=true->V.isG (dF b)->CQ V (.e a x)->CQ V (.e (.Call (.Name (dF b) p) [a] [] pos)<|.bi b [x])
 | isi {V:Sc} {t:Ty} {p p' pos:Pos} {a:Expr} {x:Ex} :V.isG "isinstance"→V.isG (cI t)→CQ V (.e a x)→CQ V (.e (.Call (.Name "isinstance" p) [a,.Name (cI t) p'] [] pos) (.bi (.isi t) [x]))
 |comp {V:Sc} {cX cM g:Expr} {vs:VT} {t:Tgt} {pos:Pos} {ed:VV} {scope:Scope} {i:Nat} {it:gM} {bG aw:List Ex} {x:Ex}:CG i g vs t->(it.pairs=true->t.isTup=true)->CQ V (.i cM it bG)->ip scope V vs->V.hi<=i->
   CQ (bM scope V vs i) (.e cX x)->CQ (bM scope V vs i) (.s ed aw)->(∀j∈aQ t,j∉aY x/\j∉bu aw)->CQ V (.e (.ListComp cX [⟨g,cM,ed,0⟩] scope pos)<|.comp x t it bG aw)
 |disp {V:Sc} {kL:List (Option Expr)} {ks:VT} {dh:VV} {M:List Ex} {pos:Pos}:KS kL ks->CQ V (.s dh M)->ks.Nodup/\PZ ks->ks.length=M.length->ks≠ []/\ks.length<=15->M.all Ex.noPl=true->CQ V (.e (.Dict kL dh pos)<|.bi (.disp ks) M)
 | index {V:Sc} {a x:Str} {i j:Nat} {k:Const} {kk:Nat} {d:D} {pa px pk ps ap pos:Pos} :V.isV a i→V.isV x j→cP k d→(ap.endLine == pos.line)=true→CQ V (.e (.Call (.Attribute (.Name a pa) "index" ap) [.Subscript (.Name x px) (.Constant k kk pk) ps] [] pos) (.bi .index [.var i,.idx (.var j) (.lit d)]))
 |bx {V:Sc} {e:Expr} {b:Bi} {es:VV} {M:List Ex}:BX V e b es->CQ V (.s es M)->CQ V (.e e<|.bi b M)
 |avar {V:Sc} {x a:Str} {p pos:Pos} {i:Nat}:V.isA x a i->CQ V (.e (.Attribute (.Name x p) a pos)<|.var i)
 |apl {V:Sc} {x a:Str} {p pos:Pos} {i:Nat}:V.isA x a i->CQ V (.e (.Attribute (.Name x p) a pos)<|.pl<|.var i)
 | mcall {V:Sc} {f:Nat} {d:DefRec} {x:Str} {p ap pos:Pos} {args:VV} {M:List Ex} :tb.fn[f]?=some d∧tb.m0 < f∧tb.rb[f-tb.m0]?=some []→x=V.sn∧(x == ("__debug__" :Str))=false∧V.ats≠ []→(ap.endLine == pos.line)=true→CQ V (.s args M)→args.length≤28→
   CQ V (.e (.Call (.Attribute (.Name x p) d.name ap) args [] pos)<|.mcall f V.as M)
 |callp {V:Sc} {f:Nat} {d:DefRec} {x:Str} {p p' pos:Pos} {i:Nat}:tb.fn[f]?=some d/\f<tb.m0->V.isG d.name->V.isV x i->CQ V (.e (.Call (.Name d.name p) [.Name x p'] [] pos)<|.callp f i)
 |tin {V:Sc} {s a x:Str} {p ap px pos:Pos} {i j:Nat}:V.isV x j->V.isA s a i->CQ V (.e (.Compare (.Name x px) [.NotIn] [.Attribute (.Name s p) a ap] pos)<|.tin i<|.var j)
 |tget {V:Sc} {s a x:Str} {p ap px pos:Pos} {i j:Nat}:V.isV x j->V.isA s a i->CQ V (.e (.Subscript (.Attribute (.Name s p) a ap) (.Name x px) pos)<|.tget i<|.var j)
 |nil {V:Sc}:CQ V (.s [] [])
 |cons {V:Sc} {e:Expr} {es:VV} {x:Ex} {M:List Ex}:CQ V (.e e x)->CQ V (.s es M)->Apart x (bu M)->CQ V (.s (e::es) (x::M))
 |onone {V:Sc}:CQ V (.o none<|.lit .none)
 |osome {V:Sc} {e:Expr} {x:Ex}:CQ V (.e e x)->CQ V (.o (some e) x)
 |seq {V:Sc} {e:Expr} {x:Ex}:CQ V (.e e x)->CQ V (.i e .seq [x])
 | range {V:Sc} {p pos:Pos} {e:Expr} {x:Ex} :V.isG "range"→CQ V (.e e x)→CQ V (.i (.Call (.Name "range" p) [e] [] pos) .range [x])
 | zip {V:Sc} {p pos:Pos} {a b:Expr} {x z:Ex} :V.isG "zip"→CQ V (.e a x)→CQ V (.e b z)→Apart x (aY z)→CQ V (.i (.Call (.Name "zip" p) [a,b] [] pos) .zip [x,z])
 | enum {V:Sc} {p pos:Pos} {e:Expr} {x:Ex} :V.isG "enumerate"→CQ V (.e e x)→CQ V (.i (.Call (.Name "enumerate" p) [e] [] pos) .enum [x])
abbrev CE(V:Sc)(e:Expr)(x:Ex):Prop:=CQ V<|.e e x
abbrev pU(V:Sc)(es:VV)(M:List Ex):Prop:=CQ V<|.s es M
abbrev Sn(V:Sc)(o:Option Expr)(x:Ex):Prop:=CQ V<|.o o x
abbrev IT(V:Sc)(e:Expr)(it:gM)(bG:List Ex):Prop:=CQ V<|.i e it bG
noncomputable def dR:Expr->Bool
 |.ListComp ..=>false
 |.SetComp ..=>false
 |.DictComp ..=>false
 |_=>true
noncomputable def qH:Expr->Bool
 |.Tuple _ _ _=>false
 |_=>true
inductive Sj(e:Expr)(VN:Env)(rest:VV)(op:CmpOp)(v o' i':Value)(o i:Expr)(p:Pos)(l:Nat)(t:Option Expr)(es:VV)(k:Nat):Prop
 |mk:starEach (e::rest) VN=(false,eval e VN)::starEach rest VN->behindInMarks op e=false->foldedSetIterable e VN v=pure v->subscripted e false o' i'=operate [o',i'] (getItem o' i')->
  swapsWith e (some<|.Subscript o i p) l VN=pure false->(dR e=false\/swapsWith e t l VN=pure false)->(qH e=false\/swappedStores [.Tuple es k p] e VN=pure none)->Sj e VN rest op v o' i' o i p l t es k
noncomputable def shp:Expr->Bool
 |.Starred _ _=>false
 |.Set _ _ _=>false
 |.Slice _ _ _ _=>false
 |.SetComp _ _ _ _=>false
 |.DictComp _ _ _ _ _=>false
 |_=>true
inductive Sx:Ex->Prop
 |lit (d:D):Sx (.lit d)
 |var (i:Nat):Sx (.var i)
 |pl (p:Pl):Sx (.pl p)
 |gl (k:Nat):Sx (.gl k)
inductive CI(V:Sc):Expr->Ex->Prop
 |comp {cX cM g:Expr} {vs:VT} {t:Tgt} {pos:Pos} {ed:VV} {scope:Scope} {i:Nat} {it:gM} {bG aw:List Ex} {x:Ex}:CG i g vs t->(it.pairs=true->t.isTup=true)->IT V cM it bG->ip scope V vs->V.hi<=i->
   CE (bM scope V vs i) cX x->pU (bM scope V vs i) ed aw->(∀j∈aQ t,j∉aY x/\j∉bu aw)->CI V (.ListComp cX [⟨g,cM,ed,0⟩] scope pos) (.comp x t it bG aw)
 |lit {c:Const} {k:Nat} {pos:Pos} {d:D}:cP c d->CI V (.Constant c k pos) (.lit d)
 |nm {x:Str} {pos:Pos} {z:Ex}:Sx z->CI V (.Name x pos) z
 |other {e:Expr} {z:Ex}:dR e=true->il e=false->shp e=true->CI V e z
def T2(V:Sc):Sy->Prop
 |.e e x=>CI V e x
 |.i e _ _=>(∃x,CE V e x)\/ ∀(VN:Env)(v:Value),foldedSetIterable e VN v=pure v
 |_=>True
theorem CQ.ci{V:Sc}{q:Sy}(h:CQ V q):T2 V q:=
 CQ.casesOn (motive:=λV q aa=>T2 V q) h (λh=>CI.lit h) (λaa=>CI.nm<|.var _) (λaa=>CI.nm<|.pl _) (λaa ai=>CI.nm<|.gl _) (λaa ai=>CI.other rfl rfl rfl) (λaa ai=>CI.other rfl rfl rfl) (λaa ai br=>CI.other rfl rfl rfl) (λaa=>CI.other rfl rfl rfl) (λaa=>CI.other rfl rfl rfl) (λaa ai br=>CI.other rfl rfl rfl) (λaa ai br=>CI.other rfl rfl rfl) (λaa=>CI.other rfl rfl rfl) (λaa ai br=>CI.other rfl rfl rfl) (λaa ai br eH=>CI.other rfl rfl rfl) (λaa ai br eH=>CI.other rfl rfl rfl) (λaa ai br=>CI.other rfl rfl rfl) (λaa ai br=>CI.other rfl rfl rfl) (λh0 hz h1 h2 h3 h4 h5 h6=>CI.comp h0 hz h1 h2 h3 h4 h5 h6) (λaa ai br eH GP QL=>CI.other rfl rfl rfl) (λaa ai br eH=>CI.other rfl rfl rfl) (fun {V _ _ _ M} h _=>BX.casesOn (motive:=λe b aa ai=>CI V e<|.bi b M) h (λaa ai br=>.other rfl rfl rfl) (λaa ai=>.other rfl rfl rfl)<|.other rfl rfl rfl) (λaa=>CI.other rfl rfl rfl) (λaa=>CI.other rfl rfl rfl) (λaa ai br eH GP=>CI.other rfl rfl rfl) (λaa ai br=>CI.other rfl rfl rfl) (λaa ai=>CI.other rfl rfl rfl) (λaa ai=>CI.other rfl rfl rfl) trivial (λaa ai br=>trivial) trivial (λaa=>trivial) (λh=>.inl ⟨_,h⟩) (λaa ai=>.inr λaa ai=>rfl) (λaa ai br eH=>.inr λaa ai=>rfl) (λaa ai=>.inr λaa ai=>rfl)
theorem CE.ci{V:Sc}{x:Ex}(h:CE V e x):CI V e x:=CQ.ci h
theorem CE.shp{V:Sc}{x:Ex}(h:CE V e x):shp e=true:=CI.casesOn (motive:=λe aa ai=>Mv.shp e=true) h.ci (λaa ai br eH GP QL Uz Uy=>rfl) (λaa=>rfl) (λaa=>rfl) λaa ai h=>h
theorem CE.sx{V:Sc}{k:Expr}(ce:CE V k z):il k=true->Sx z:=CI.casesOn (motive:=λk z aa=>il k=true->Sx z) ce.ci (λaa ai br eH GP QL Uz Uy q=>noConfusion q) (fun {_ _ _ d} _ _=>.lit d) (λh aa=>h) λaa h ai q=>noConfusion<|h.symm.trans q
theorem Ix(VN:Env)(rest:VV)(op:CmpOp)(v o' i':Value)(o i:Expr)(p:Pos)(l:Nat)(t:Option Expr)(es:VV)(k:Nat)(h:shp e=true):Sj e VN rest op v o' i' o i p l t es k:=by cases e<;>first|exact .mk rfl rfl rfl rfl rfl (.inr rfl) (.inr rfl)|exact .mk rfl rfl rfl rfl rfl (.inl rfl) (.inr rfl)|exact .mk rfl rfl rfl rfl rfl (.inr rfl) (.inl rfl)|exact tf h
theorem CE.epl{V:Sc}{x:Ex}(VN:Env)(rest:VV)(op:CmpOp)(v o' i':Value)(o i:Expr)(p:Pos)(l:Nat)(t:Option Expr)(es:VV)(k:Nat)(h:CE V e x):Sj e VN rest op v o' i' o i p l t es k:=Ix VN rest op v o' i' o i p l t es k h.shp
theorem CE.star{V:Sc}{x:Ex}(h:CE V e x)(VN:Env)(rest:VV):starEach (e::rest) VN=(false,eval e VN)::starEach rest VN:=by cases CE.epl VN rest .Eq .none .none .none e e e.pos 0 none [] 0 h;assumption
theorem CE.noSet{V:Sc}{x:Ex}(h:CE V e x)(op:CmpOp):behindInMarks op e=false:=by cases CE.epl default [] op .none .none .none e e e.pos 0 none [] 0 h;assumption
theorem CE.noFold{V:Sc}{x:Ex}(h:CE V e x)(VN:Env)(v:Value):foldedSetIterable e VN v=pure v:=by cases CE.epl VN [] .Eq v .none .none e e e.pos 0 none [] 0 h;assumption
theorem CE.isPlain{V:Sc}{x:Ex}(h:CE V e x)(o i:Value):subscripted e false o i=operate [o,i] (getItem o i):=by cases CE.epl default [] .Eq .none o i e e e.pos 0 none [] 0 h;assumption
theorem mZ{V:Sc}{o i:Expr}{p:Pos}{l:Nat}(ce:CE V e z):swapsWith e (some<|.Subscript o i p) l VN=pure false:=by cases CE.epl VN [] .Eq .none .none .none o i p l none [] 0 ce;assumption
theorem fD{V:Sc}{t:Option Expr}{l:Nat}(ce:CE V e z)(h:dR e=true):swapsWith e t l VN=pure false:=by cases CE.epl VN [] .Eq .none .none .none e e e.pos l t [] 0 ce with
 |mk _ _ _ _ _ a _=>exact a.elim (λq=>by have h:=q▸h;exact tf h) id
theorem sQ{V:Sc}{k:Nat}{p:Pos}{e:Ex}(ce:CE V aH e)(h:qH aH=true):swappedStores [.Tuple es k p] aH VN=pure none:=by cases CE.epl VN [] .Eq .none .none .none aH aH p 0 none es k ce with
 |mk _ _ _ _ _ _ a=>exact a.elim (λq=>by have h:=q▸h;exact tf h) id
theorem IT.noFold{V:Sc}{it:gM}(h:IT V e it bG)(VN:Env)(v:Value):foldedSetIterable e VN v=pure v:=(CQ.ci h).elim (λ⟨_,h⟩=>CE.noFold h VN v) λq=>q VN v
theorem aN{m:bF α}{k:α->Fm->bF β}{o:VW β×Fm}(h:aT m k=some o):(∃e Y,m=some (.error e,Y)/\o=(.error e,Y))\/ ∃a Y,m=some (.ok a,Y)/\k a Y=some o:=by
 rcases m with _|⟨_|a,Y⟩
 .exact am h
 .exact .inl ⟨_,_,rfl,(Y5 h).symm⟩
 .exact .inr ⟨_,_,rfl,h⟩
inductive Po{α:Type}(Y:Fm)(m:Option α)(o:VW α×Fm):Prop
 |mk (a:α):m=some a->o=(.ok a,Y)->Po Y m o
theorem hH{m:Option Rv}{o:VW Rv×Fm}(h:DV Y m=some o):Po Y m o:=by
 rcases m with _|⟨_|_|_⟩
 .exact am h
 .exact⟨_,rfl,(aE h).symm⟩
 .exact⟨_,rfl,(aE h).symm⟩
 .exact am h
variable [Hp]
theorem eU.det{l:Loc}{v v':Value}(x:eU h l v)(z:eU h l v'):v=v':=by cases l with
 |dict a n=>obtain⟨m,⟨o,es,ep,ho,hd,hk,hf⟩,e⟩:=x;obtain⟨m',⟨o',Kq,Ks,lc,cQ,e6,J0⟩,e'⟩:=z;rw[ho]at lc;obtain rfl:=aE lc;have cQ:=hd▸cQ;injection cQ with cQ;subst cQ;rw[<- hf,J0,e']at e;refine O (aE e) ?_;rfl
 |cell a=>obtain⟨o,x⟩:=x;obtain⟨o',lc,cQ⟩:=z;rw[x.1]at lc;obtain rfl:=aE lc;have cQ:=x.2▸cQ;cases cQ;rfl
 |attr a ns n=>obtain⟨m,⟨⟨o,es,ep,ho,hd,_,_,hf⟩,_⟩,e⟩:=x;obtain⟨m',⟨⟨o',Kq,Ks,lc,cQ,_,_,J0⟩,_⟩,e'⟩:=z;rw[ho]at lc;obtain rfl:=aE lc;rw[hd]at cQ;injection cQ with cQ;subst cQ;rw[<- hf,J0,e']at e;refine O (aE e) ?_;rfl
def Gu(F:VQ)(A:Around):Prop:= ∃l,A.frames=some l/\ ∀e∈l,e.scope.kind≠ .module/\ ∃L,e.frame=some L/\F L
structure kJ(V:Sc)(VN:Env)(y:Lay)(p:Addr×Obj)(dx:Addr):Prop where
 slf:y.slf=some p
 cls:∃c C,tb.cr=some c/\mg c.name=some (.ref C)/\p.2.cls = .ref C
 nc:∀c,p.2.data≠ .cls c
 dic:p.2.dict=some dx
 ne:dx≠p.1
 lk:VN.kindOf V.sn=some .local
 ls:y.loc y.si=some (.dict VN.locals V.sn)
 an:∀a i,V.ats.lookup a=some i->a∈tb.an/\y.loc i=some (.attr dx tb.an a)
 as:∀(k i:Nat),V.as[k]?=some i-> ∃a,tb.an[k]?=some a/\y.loc i=some (.attr dx tb.an a)
 len:V.as.length=tb.an.length
 full:∀i l,y.loc i=some l->l.addr=dx->i∈V.as
 zd:∀i l,y.loc i=some l->l.addr=dx-> ∃a,l = .attr dx tb.an a
structure aJ(A:Around)(V:Sc)(VN:Env)(y:Lay):Prop where
 stk:Gu (λa=>y.F a\/a=y.L) A
 hi:∀i l,y.loc i=some l->i<V.hi
 kind:VN.scope.kind = .function
 glob:VN.globals=mainGlobals
 blt:VN.builtins=builtinsNs
 frame:VN.frame=some y.L
 top:∃e0 d8,A.frames=some (e0::d8)/\e0.frame=VN.frame
 var:∀x i,V.vars.lookup x=some i→(VN.kindOf x=some .local∧y.loc i=some (.dict VN.locals x))∨((VN.kindOf x=some .cell∨(VN.kindOf x=some .free∧(x == ("__classdict__" :Str))=false))∧ ∃c,VN.cells.lookup x=some c∧y.loc i=some (.cell c))
 gl:∀x,V.names.lookup x=some .globalImplicit->VN.kindOf x=some .globalImplicit
 cf:∀x,V.names.lookup x=some .cell\/V.names.lookup x=some .free->VN.kindOf x=some .cell\/VN.kindOf x=some .free
 ins:V.ats≠ []-> ∃p dx,kJ V VN y p dx
 nsi:∀x i,V.vars.lookup x=some i-> ∀p,y.slf=some p->y.si≠i
 slo:∀p,y.slf=some p-> ∃l,y.loc y.si=some l
noncomputable def jM:VT:=["len","isinstance","sum","abs","int","str","tuple","list","bool","range","zip","dict","enumerate"]
def sq(B:Heap)(C:Addr)(Cl:Value)(b:Bool):Prop:= ∀(prog:Program)(w:World)(A:Around)(E:VR)(s:Shared)(a:Addr)(o:Obj),(∀a o,B.get? a=some o->s.heap.get? a=some o)->s.heap.get? a=some o->(o.cls = .ref C/\o.dict=none/\ ∃vs,o.data = .fields vs)->
 ∀Q:Bool->Shared->Prop,Q b s->wpAny (model prog w) A (excMatches (.ref a) Cl) Q E s
structure Gd(glob:VX):Prop where
 g:B.Ns mainGlobals mg
 b:B.Ns builtinsNs mb
 nl:B.NoLimit
 bt:∀x:Str,x≠"__name__"→mb x=bootBuiltins x
 fn:∀(f:Nat)(d:DefRec),f<tb.m0->tb.fn[f]?=some d-> ∃a o pm code gS,mg d.name=some (.ref a)/\B.get? a=some o/\o.data = .func (docDef d.name d.params d.body d.scope pm code gS)/\B.CodeRec code d.name
 pl:∀c,tb.cr=some c→ ∃C N mN,mg c.name=some (.ref C)∧PlainAt B c C N mN∧(∀a∈tb.an,mN a=none∧typeLookup (.type "object") a=pure none)∧
  ∀(f:Nat) (d:DefRec),tb.m0≤f→tb.fn[f]?=some d→⟨d.name,d.params,d.body,d.scope⟩∈c.meths∧d.name∉tb.an∧ ∃y,typeLookup (.type "object") d.name=pure y
 gl:∀(k:Nat)(x:Str)(d:D),tb.gl[k]?=some x->glob[k]?=some d-> ∃v,mg x=some v/\ ∀(h:Heap)(Z:VQ),(∀a o,B.get? a=some o->h.get? a=some o)->(∀a o,B.get? a=some o->Z a)->bE h Z v d
 bi:∀x∈jM,mg x=none
 cl:∀k∈tb.cl, ∃C Bb newId hY bm,OwnClsQ k C bm newId mg B/\ExcBaseFacts Bb newId hY bm
 ask:∀c∈tb.hc, ∃Cl,mg c=some Cl/\ ∀k∈tb.hc, ∀C,mg k=some (.ref C)->sq B C Cl (decide<|k=c)
section
variable {y:Lay}{bv bv':VS}{KK ag:VP}{Z Z':VQ}{s s':Shared}{Y dU:Fm}
inductive gL(y:Lay)(bv:VS)(KK:VP)(Z:VQ)(s:Shared)(LT:VW Rv×Fm)(v:Value)(s':Shared):Prop
 |mk (r:Rv) (ag:VP) (Z':VQ):LT.1 = .ok r->Inv y ag Z' s'.heap LT.2->Step y bv KK Z s ag Z' s'->eD y ag Z' s.heap s'.heap r v->gL y bv KK Z s LT v s'
set_option tactic.hygienic true in
theorem eD.dat{r:Rv}{v:Value}{d:D}(I:Inv y KK Z h Y)(q:eD y KK Z h₀ h r v)(e:d6 Y r=some d):cU h Z v d:=by cases r with
 |fz d'=>obtain rfl:=aE e;exact .inl q
 |KK d'=>obtain rfl:=aE e;refine aB q λa q=>?_;refine O q.1 ?_;have w:=q.2.2.2.2.2;exact .inr ⟨a,rfl,w⟩
 |pl p=>cases p with
  |var i=>
   refine aB q λl q=>?_;simp only[d6,yX]at e;split at e
   .rename_i d' hs;cases e;obtain⟨l',v',cC,AK,R⟩:=I.at' i _ hs (by intro n;cases n);rw[q.1]at cC;obtain rfl:=aE cC;exact O (q.2.det AK)<|.inl R
   .rename_i d' hs;cases e;obtain⟨l',v',cC,AK,a,rfl,oa,w⟩:=I.at' i _ hs (by intro n;exact Slot.noConfusion n);rw[q.1]at cC;obtain rfl:=aE cC;exact O (q.2.det AK)<|.inr ⟨a,rfl,w⟩
   .exact am e
inductive HM(y:Lay)(bv:VS)(KK:VP)(Z:VQ)(s:Shared)(ag:VP)(s':Shared)(Y:Fm)(v:Value)(d:D):Prop
 |mk (n6:VQ):Inv y ag n6 s'.heap Y->Step y bv KK Z s ag n6 s'->bE s'.heap n6 v d->HM y bv KK Z s ag s' Y v d
theorem eD.freeze{r:Rv}{v:Value}{d:D}(I:Inv y ag Z' s'.heap Y)(S:Step y bv KK Z s ag Z' s')(q:eD y ag Z' s.heap s'.heap r v)(e:c5 r=some d):
  HM y bv KK Z s ag s' Y v d:=by
 cases r with
 |fz d'=>exact O (aE e).symm<|⟨Z',I,S,q⟩
 |KK d'=>refine O (aE e).symm ?_;refine aB q λa q=>?_;refine O q.1 ?_;exact aB q.2.2.2.2.2.live λo ho=>(⟨_,I.addZ q.2.2.1 q.2.2.2.1 ho,S.addZ q.2.1,q.2.2.2.2.2.rep (λaa z=>.inl z)<|.inr rfl⟩)
 |pl p=>exact am e
theorem Op.post{aC:Shared}{aK:VQ}{ao:VP}{r:Rv}{v:Value}{jp:Shared}(I:Inv y ao aK aC.heap Y)(S:Step y bv KK Z s ao aK aC)(p:Op aK aC r v jp):gL y bv KK Z s (.ok r,Y) v jp:=by obtain⟨h',tk,rfl,k,q⟩:=p;cases q with
 |old R=>exact⟨_,ao,aK,rfl,I.grow k,S.trans<|.grow k,R⟩
 |new e e' R=>exact⟨_,ao,_,rfl,I.growZ k e e',S.trans<|.growZ k e,R⟩
 |@KK a d e w=>exact⟨_,ao,aK,rfl,I.grow k,S.trans<|.grow k,a,rfl,S.old a e,(I.fresh e).1,(I.fresh e).2.1,(I.fresh e).2.2,w⟩
theorem gL.val{d:D}{v:Value}(I:Inv y ag Z' s'.heap Y)(S:Step y bv KK Z s ag Z' s')(R:bE s'.heap Z' v d):gL y bv KK Z s (.ok<|.fz d,Y) v s':=⟨_,ag,Z',rfl,I,S,R⟩
theorem nh{r:Rv}{d:D}(e:c5 r=some d):gq r=[]:=by cases r<;>first|rfl|exact am e
end
section
variable {A:Around}{E:VR}{VN:Env}{glob:VX}{V:Sc}{y:Lay}{c:Cfg}{n:Nat}
 {bv:VS} {KK af:VP} {Z au:VQ} {s s₁:Shared} {Y aj:Fm}
theorem hV{l:Loc}{v:Value}{Q:VR}(en:aJ A V VN y)(hv:V.isV x i)(hl:y.loc i=some l)(hr:eU s.heap l v)(h:Q v s):
  wpAny (model prog w) A (eval (.Name x pos) VN) Q E s:=by
 refine wpAny_Name ?_ hv.2;rcases en.var x i hv.1 with⟨hk,e⟩|⟨hk|⟨hk,hc⟩,c,ri,e⟩
 .rw[hl]at e;obtain rfl:=aE e;obtain⟨m,hr⟩:=hr;exact wpAny_loadName_local en.kind hk hr.1 hr.2 h
 .have e:=hl▸e;obtain rfl:=aE e;exact wpAny_loadName_cell en.kind hk ri hr h
 .rw[hl]at e;obtain rfl:=aE e;exact wpAny_loadName_free en.kind hk ri hr h hc
theorem bE.hand{v:Value}{d:D}(r:bE h Z v d):handedOut v=pure v:=bE.casesOn (motive_1:=λv aa ai=>handedOut v=pure v) r rfl (λaa=>rfl) (λaa ai=>rfl) (λaa ai br eH=>rfl) (λaa ai br eH=>rfl) (λaa ai br eH=>rfl) λaa ai br eH=>rfl
theorem dH.hand{Fr:VQ}{sl:Slot}{v:Value}(x:dH h Z Fr sl v)(n:sl≠ .no):handedOut v=pure v:=by cases sl with
 |no=>exact absurd rfl n
 |fz d=>exact bE.hand x
 |KK d=>obtain⟨a,rfl,_⟩:=x;rfl
 |tab X=>obtain⟨a,rfl,_⟩:=x;rfl
theorem Sc.isA.ne{a:Str}(hx:V.isA x a i):V.ats≠ []:=λq=>by have:=hx.at';rw[q]at this;exact am this
theorem iB{x:Str}{p:Addr × Obj}{dx:Addr}{pos:Pos}{Q:Value→Shared→Prop}(J:kJ V VN y p dx)(en:aJ A V VN y)(I:Inv y KK Z s.heap Y)(hx:x=V.sn)(hd:(x == ("__debug__" :Str))=false)(h:Q (.ref p.1) s) :
  wpAny (model prog w) A (eval (.Name x pos) VN) Q E s:=by
 obtain⟨l,hl,m,hn,hm⟩:∃l,some l=some (Loc.dict VN.locals V.sn)/\ ∃m,s.heap.Ns VN.locals m/\m V.sn=some (.ref p.1):=by obtain⟨l,hl,r⟩:=(I.sf p J.slf).rd;rw[J.ls]at hl;obtain rfl:=aE hl;exact⟨_,rfl,r⟩
 subst hx;exact wpAny_Name (wpAny_loadName_local en.kind J.lk hn hm h) hd
theorem eW{a:Str}{p:Pos}{l:Loc}{v:Value}{Q:VR}(gd:Gd glob)(en:aJ A V VN y)(I:Inv y KK Z s.heap Y)(hx:V.isA x a i)(hl:y.loc i=some l)(hr:eU s.heap l v)(hv:handedOut v=pure v)(h:∀tk,Q v {s with toks:=tk}):
  wpAny (model prog w) A (eval (.Attribute (.Name x p) a pos) VN) Q E s:=by
 refine ak λG2 g2=>?_;refine er (en.ins hx.ne) λpp dx J=>?_;refine ak λG4 g4=>?_;refine er J.cls λc C u=>?_;have rg:=u.1;have hC:=u.2.1;have J6:=u.2.2;refine kF (gd.pl c rg) λC' N mN z=>?_;have tT:=z.1;have P:=z.2.1;have jR:=z.2.2.1;have tT:=hC▸tT;cases tT;refine g4 ?_;refine g2 ?_;refine Attribute_name<|iB J en I hx.sn hx.db ?_;refine ak λG g=>?_;obtain⟨ha,JW⟩:=J.an a i hx.at';rw[hl]at JW;obtain rfl:=aE JW;refine ak λG1 g1=>?_;obtain⟨mA,⟨JT,hw⟩,UO⟩:=hr;refine ak λG3 g3=>?_;obtain⟨nm,q,bs,sn,sub,col,dd,k0,k1,k2,k3,k5,G9⟩:=(P.cls.keeps I.base).obj;refine g3 ?_;refine g1 ?_;exact g<|load_attr G9 (P.cls.keeps I.base).ns (P.quiet _<|Zx _ (by decide)) (jR a ha).1 (jR a ha).2 ⟨pp.2,(I.sf pp J.slf).ob,J6,J.nc,.inr ⟨dx,J.dic,J.ne,JT⟩⟩ UO hv<|h _
theorem u9{o:Expr}{l:Loc}{v:Value}{Q:VR}(gd:Gd glob)(en:aJ A V VN y)(I:Inv y KK Z s.heap Y)(hx:PE V o i)(hl:y.loc i=some l)(hr:eU s.heap l v)(hv:handedOut v=pure v)(h:∀tk,Q v {s with toks:=tk}):
  wpAny (model prog w) A (eval o VN) Q E s:=by
 cases hx with
 |nm hx=>exact hV en hx hl hr<|h s.toks
 |atr hx=>exact eW gd en I hx hl hr hv h
theorem eP{v:Value}{Q:VR}(gd:Gd glob)(en:aJ A V VN y)(I:Inv y KK Z s.heap Y)(hx:V.isG x)(hv:mg x=some v)(h:Q v s):
  wpAny (model prog w) A (eval (.Name x pos) VN) Q E s:=
 Calls.Name_function_global en.kind (en.gl x hx.1) (Calls.loadGlobal_global (by refine O en.glob ?_;exact gd.g.keeps I.base) hv h) hx.2
theorem d9{x:Str}{pos:Pos}{v:Value}{Q:Value→Shared→Prop}(gd:Gd glob)(en:aJ A V VN y)(I:Inv y KK Z s.heap Y)(hx:V.isG x)(hm:x∈jM)(hn:x≠"__name__")(hv:bootBuiltins x=some v)(h:Q v s) :
  wpAny (model prog w) A (eval (.Name x pos) VN) Q E s:=
 Calls.Name_function_global en.kind (en.gl x hx.1) (Calls.loadGlobal_builtin (by refine O en.glob ?_;exact gd.g.keeps I.base) (gd.bi x hm) (by refine O en.blt ?_;exact gd.b.keeps I.base) ((gd.bt x hn).trans hv) h) hx.2
end
noncomputable def nY:Bi->Value
 | .len=>.builtin "len" | .isi _=>.builtin "isinstance" | .sum=>.builtin "sum" | .abs=>.builtin "abs" | .int=>.type "int" | .tuple=>.type "tuple" | .list=>.type "list" | .str=>.type "str" | .dict=>.type "dict"
 | _=>.builtin "len"
theorem mr(b:Bi):dF b∈jM:=by cases b<;>(dsimp only[dF];decide)
theorem nZ(b:Bi) :dF b≠("__name__" :Str):=by cases b <;> (dsimp only [dF]; decide)
theorem vJ(b:Bi):bootBuiltins (dF b)=some (nY b):=by cases b<;>(dsimp only[dF,nY];boot_fast)
theorem F5(t:Ty):bootBuiltins (cI t)=some (.type<|cI t):=by cases t<;>(dsimp only[cI];boot_fast)
theorem boot_zip:bootBuiltins "zip"=some (.type "zip"):=by boot_fast
theorem boot_dict:bootBuiltins "dict"=some (.type "dict"):=by boot_fast
theorem boot_enumerate:bootBuiltins "enumerate"=some (.type "enumerate"):=by boot_fast
theorem boot_range:bootBuiltins "range"=some (.type "range"):=by boot_fast
abbrev Ins:Type:=Option<|Addr×Obj×Addr
noncomputable def mD:Ins->Nat
 |none=>0
 |some _=>tb.an.length
noncomputable def j3(J:Ins)(k:Nat):Option Loc:=match J with
 |none=>none
 |some (_,_,dx)=>(tb.an[k]?).map λa=>.attr dx tb.an a
def yg(J:Ins)(a:Addr):Prop:= ∃x o,J=some (x,o,a)
noncomputable def kq:Ins->VU
 |none=>[]
 |some (x,_,_)=>[.ref x]
noncomputable def sX(f:Nat):VS:=if f<tb.m0 then [] else(tb.rb[f-tb.m0]?).getD []
theorem eO{J:Ins}{k:Nat}{l:Loc}(h:j3 J k=some l):k<mD J/\yg J l.addr:=by
 rcases J with _|⟨x,o,dx⟩
 .exact am h
 .obtain⟨a,ha,rfl⟩:=Z9 h;exact⟨(List.getElem?_eq_some_iff.mp ha).1,x,o,rfl⟩
structure vX(F:VQ)(KK:VP)(Z:VQ)(h:Heap)(x:Addr)(o:Obj)(dx:Addr):Prop where
 zx:Z x
 ob:h.get? x=some o
 cls:∃c C,tb.cr=some c/\mg c.name=some (.ref C)/\o.cls = .ref C
 nc:∀c,o.data≠ .cls c
 dic:o.dict=some dx
 ne:dx≠x
 zd:¬Z dx
 od:KK dx=none
 fd:¬F dx
 ok:∃m,h.Ns1 dx m/\Within m tb.an
def uG(F:VQ)(KK:VP)(Z:VQ)(h:Heap)(J:Ins):Prop:= ∀x o dx,J=some (x,o,dx)->vX F KK Z h x o dx
structure Gh(F:VQ)(KK:VP)(Z:VQ)(h:Heap):Prop where
 base:∀a o,B.get? a=some o->h.get? a=some o
 zb:∀a o,B.get? a=some o->Z a
 zo:∀a,Z a->KK a=none
 zF:∀a,Z a-> ¬F a
 oF:∀a,KK a≠none-> ¬F a
 zlv:∀a,Z a-> ∃o,h.get? a=some o
 olv:∀a,KK a≠none-> ∃o,h.get? a=some o
 flv:∀a,F a-> ∃o,h.get? a=some o/\NR o
structure HL(J:Ins)(rb:VS)(F:VQ)(KK:VP)(Z:VQ)(s:Shared)(ag:VP)(Z':VQ)(s':Shared):Prop where
 sh:∃h' tk,s'={s with heap:=h',toks:=tk}
 ext:Gx (λa=>KK a≠none\/yg J a) F s.heap s'.heap
 zm:∀a,Z a->Z' a
 zn:∀a,Z' a->Z a\/KK a≠none\/s.heap.get? a=none
 on:∀a i,ag a=some i->KK a=some i\/s.heap.get? a=none
 bind:∀k l v,k∉rb->j3 J k=some l->eU s.heap l v->eU s'.heap l v
def vY(J:Ins)(KK:VP)(Z:VQ)(h:Heap)(Ud:List Slot):Prop:=
 ∀(k:Nat)(sl:Slot)(l:Loc),Ud[k]?=some sl->j3 J k=some l->sl≠ .no-> ∃v,eU h l v/\dH h Z (λa=>KK a=some k) sl v
def iJ(J:Ins)(KK:VP)(Z:VQ)(h:Heap)(args:List Slot)(vs:VU):Prop:=
 args.length=mD J+vs.length/\vY J KK Z h args/\ ∀(k:Nat)(sl:Slot)(v:Value),args[mD J+k]?=some sl->vs[k]?=some v->sl≠ .no/\dH h Z (λa=>KK a=some (mD J+k)) sl v
def Pi(F:VQ)(KK:VP)(Z:VQ)(h₀ h:Heap):Rv->Value->Prop
 |.fz d,v=>bE h Z v d
 |.KK d,v=> ∃a,v = .ref a/\h₀.get? a=none/\KK a=none/\ ¬F a/\ ¬Z a/\cT h Z a d
 |.pl _,_=>False
def gI(KK:VP)(Z:VQ)(h:Heap):Nat->List Slot->VU->List Slot->Prop
 |k,sl::ss,v::vs,aM=>if sl.lent=true then ∃o os,aM=o::os/\(o≠ .no->dH h Z (λa=>KK a=some k) o v)/\gI KK Z h (k+1) ss vs os else gI KK Z h (k+1) ss vs aM
 |_,_,_,_=>True
theorem r5{KK:VP}{k:Nat}{sl:Slot}{v:Value}{vs:VU} :gI KK Z h k (sl::ss) (v::vs) aM=(if sl.lent=true then ∃o os,aM=o::os/\(o≠ .no->dH h Z (λa=>KK a=some k) o v)/\gI KK Z h (k+1) ss vs os else gI KK Z h (k+1) ss vs aM):=rfl
inductive i6(h:Heap)(P:VQ)(a:Addr)(nm:Str):Prop
 |mk (pa:P a) (oe:Obj) (vs:Array Value) (C:Addr) (m:Str->Option Value):h.get? a=some oe->(oe.cls = .ref C/\oe.dict=none)->oe.data = .fields vs->B.Ns mainGlobals m->m nm=some (.ref C)->
  (vs[1]?=some .none\/ ∃T oT ts,vs[1]?=some (.ref T)/\T≠a/\h.get? T=some oT/\oT.data = .fields ts/\3<ts.size/\P T)->i6 h P a nm
theorem i6.mono{P P':VQ}(x:i6 h P a nm)(k:∀b o,h.get? b=some o->P b->P' b):i6 h P' a nm:=by
 refine ak λG g=>?_;obtain⟨p,oe,vs,C,m,he,hc,hd,hn,hm,ht⟩:=x;rcases ht with q|⟨T,oT,ts,h1,h2,h3,h4,h5,h6⟩
 .exact g (⟨k a _ he p,oe,vs,C,m,he,hc,hd,hn,hm,.inl q⟩)
 .exact g (⟨k a _ he p,oe,vs,C,m,he,hc,hd,hn,hm,.inr ⟨T,oT,ts,h1,h2,h3,h4,h5,k T _ h3 h6⟩⟩)
inductive gi(J:Ins)(rb:VS)(F:VQ)(KK:VP)(Z:VQ)(s:Shared)(args:List Slot)(vs:VU)(m9:VW Rv)(aM:List Slot)(r:Result)(s':Shared):Prop
 |mk (ag:VP) (Z':VQ):Gh F ag Z' s'.heap->uG F ag Z' s'.heap J->HL J rb F KK Z s ag Z' s'->vY J ag Z' s'.heap aM->mD J<=aM.length->gI ag Z' s'.heap (mD J) (args.drop<|mD J) vs (aM.drop<|mD J)->
  ((∃rv v,m9 = .ok rv/\r = .ok (.ret v)/\Pi F ag Z' s.heap s'.heap rv v)\/
   ∃nm a,m9 = .error nm/\r = .error (.ref a)/\i6 s'.heap (λb=>s.heap.get? b=none/\ag b=none/\ ¬F b/\ ¬Z' b) a nm)->gi J rb F KK Z s args vs m9 aM r s'
def xW(f:Nat)(d:DefRec)(J:Ins)(fa:Addr):Prop:=(J=none↔f<tb.m0)/\ ∃o gn pm code gS,B.get? fa=some o/\o.data = .func (methDef d.name gn d.params d.body d.scope pm code gS)/\B.CodeRec code gn
def sj(n:Nat)(call:Bool->Nat->List Slot->Option (VW Rv×List Slot)):Prop:=
 ∀hd f args m9 aM,call hd f args=some (m9,aM)-> ∀(d:DefRec),tb.fn[f]?=some d-> ∀(J:Ins) fa,xW f d J fa-> ∀(A:Around)(F:VQ)(KK:VP)(Z:VQ)(s:Shared)(vs:VU),
  A.depth+2*n<=999->A.units+8*n<=4000->(hd=false->A.handled=none)->Gu F A->Gh F KK Z s.heap->uG F KK Z s.heap J->iJ J KK Z s.heap args vs->
  codeAny (model prog w) A (.call (.ref fa) ⟨kq J++vs,[]⟩) (gi J (sX f) F KK Z s args vs m9 aM) s
noncomputable def fE(rs:List Rv)(i:Nat):Nat->Option Nat
 |k=>match rs with
  |[]=>none
  |.pl (.var j)::rs=>if j=i then some k else fE rs i (k+1)
  |_::rs=>fE rs i<|k+1
theorem ng:∀{rs:List Rv}{i k j:Nat},fE rs i k=some j->k<=j/\rs[j-k]?=some (.pl<|.var i):=by intro rs i k j h;induction rs generalizing i k j with
 |nil=>exact am h
 |cons r rs ih=>
  have tail:fE rs i (k+1)=some j->k<=j/\(r::rs)[j-k]?=some (.pl<|.var i):=λh=>by
   obtain⟨h1,h2⟩:=ih h;refine⟨by exact(L1 [k,j] .x .y (.p 1 .x) .y rfl h1),?_⟩;obtain⟨m,rfl⟩:∃m,j=k+1+m:=⟨j-(k+1),by exact(Le [j,k,j-(k+(1:Nat))] (.e .x<|.a (.p 1 .y) .z) [Gq (.a .z<|.p 1 .y) .x] rfl<|Za (n:=j) (m:=k+(1:Nat)) h1)⟩
   refine O (show k+1+m-k=m+1 from by exact(Le [k+(1:Nat)+m-k,m,k] (.e .x<|.p 1 .y) [Gp (.a .x .z)<|.a (.p 1 .z) .y] rfl<|Za (n:=k+(1:Nat)+m) (m:=k)<|L1 [k,m] .x (.a (.p 1 .x) .y) (.p 1 .x) (.a (.p 1 .x) .y) rfl h1))<|O (List.getElem?_cons_succ) ?_;rw[show k+1+m-(k+1)=m from by exact(Le [k+(1:Nat)+m-(k+(1:Nat)),m,k] (.e .x .y) [Gp (.a .x<|.p 1 .z)<|.a (.p 1 .z) .y] rfl<|Za (n:=k+(1:Nat)+m) (m:=k+(1:Nat)) h1)]at h2;exact h2
  cases r with
  |fz d=>exact tail h
  |KK d=>exact tail h
  |pl p=>cases p with
   |var j'=>
    have h:(if j'=i then some k else fE rs i (k+1))=some j:=h;by_cases q:j'=i
    .rw[YX q]at h;refine O (aE h) ?_;subst q;exact⟨Zh _,by simp⟩
    .rw[YY q]at h;exact tail h
theorem nA:∀{rs:List Rv}{j i:Nat},rs[j]?=some (.pl<|.var i)->i∈d7 rs:=by intro rs j i h;induction rs generalizing j i with
 |nil=>simp at h
 |cons r rs ih=>cases j with
  |zero=>simp at h;subst h;exact Zt
  |succ j=>have:=ih h;cases r with
    |pl p=>cases p;exact Zu _ this
    |fz _=>exact this
    |KK _=>exact this
theorem yW:∀{rs:List Rv}{j i k:Nat},(d7 rs).Nodup->rs[j]?=some (.pl<|.var i)->fE rs i k=some (k+j):=by intro rs j i k nd h;induction rs generalizing j i k with
 |nil=>simp at h
 |cons r rs ih=>cases j with
  |zero=>simp at h;subst h;exact YX rfl
  |succ j=>
    have h':rs[j]?=some (.pl<|.var i):=by exact h
    have e:k+(j+1)=k+1+j:=by exact(Zk (L0 [k,j] (.a .x<|.p 1 .y) (.a (.p 1 .x) .y) rfl)<|L0 [k,j] (.a (.p 1 .x) .y) (.a .x<|.p 1 .y) rfl)
    cases r with
    |pl p=>cases p with
     |var j'=>
      rw[DF,nodup_cons]at nd;show(if j'=i then some k else fE rs i (k+1))=_
      exact O (YY (λq:j'=i=>nd.1 (by refine O q ?_;exact nA h')))<|O e<|ih nd.2 h'
    |fz _=>exact O e<|ih nd h'
    |KK _=>exact O e<|ih nd h'
noncomputable def frz:Rv->Rv
 |.KK d=>.fz d
 |r=>r
def ey(y:Lay)(KK:VP)(Z:VQ)(h₀ h:Heap):List Rv->VU->Prop
 |[],[]=>True
 |r::rs,v::vs=>eD y KK Z h₀ h (frz r) v/\ey y KK Z h₀ h rs vs
 |_,_=>False
theorem ey.one{y:Lay}{KK:VP}{Z:VQ}{h₀ h:Heap}{r:Rv}{vs:VU}(R:ey y KK Z h₀ h [r] vs):∃v,vs=[v]/\eD y KK Z h₀ h (frz r) v:=by cases vs with
 |nil=>exact R.elim
 |cons v vs=>cases vs with
  |nil=>exact⟨v,rfl,R.1⟩
  |cons _ _=>exact R.2.elim
theorem ey.length{y:Lay}{KK:VP} :∀{rs:List Rv}{vs:VU},ey y KK Z h₀ h rs vs->rs.length=vs.length:=by intro rs vs h;induction rs generalizing vs with
 |nil=>cases vs with
  |nil=>exact rfl
  |cons x2 x3=>exact h.elim
 |cons x1 rs ih=>cases vs with
  |nil=>exact h.elim
  |cons x4 vs=>exact O ZH<|O ZH<|O (ih h.2) rfl
theorem ey.get{y:Lay}{KK:VP} :∀{rs:List Rv}{vs:VU}{k:Nat}{r:Rv}{v:Value},ey y KK Z h₀ h rs vs->rs[k]?=some r->vs[k]?=some v->eD y KK Z h₀ h (frz r) v:=by intro rs vs k x1 x2 h e e';induction rs generalizing vs k x1 x2 e' with
 |nil=>cases vs with
  |nil=>simp at e
  |cons x3 x4=>exact h.elim
 |cons r rs ih=>cases vs with
  |nil=>exact h.elim
  |cons v vs=>cases k with
   |zero=>simp at e e';subst e;subst e';exact h.1
   |succ k=>exact ih h.2 e e'
noncomputable def dY(Y:Fm):Rv->Option Slot
 |.fz d=>some<|Slot.fz d
 |.KK d=>some<|.fz d
 |.pl (.var i)=>(match Y[i]? with
  |some (.fz d)=>some<|.fz d
  |some (.KK d)=>some<|.KK d
  |_=>none)
theorem mU{r:Rv}(h:da Y (r::rs)=some ss):∃sl Mu,ss=sl::Mu/\dY Y r=some sl/\da Y rs=some Mu:=by
 have h:(match dY Y r,da Y rs with
  |some s,some ss=>some (s::ss)
  |_,_=>none)=some ss:=by
  cases r with
  |fz d=>exact h
  |KK d=>exact h
  |pl p=>cases p;exact h
 cases h1:dY Y r with
 |none=>rw[h1]at h;exact am h
 |some sl=>rw[h1]at h;cases h2:da Y rs with
  |none=>rw[h2]at h;exact am h
  |some Mu=>rw[h2]at h;exact O (aE h).symm ⟨sl,Mu,rfl,rfl,rfl⟩
theorem jP:∀{rs:List Rv}{ss:List Slot},da Y rs=some ss->rs.length=ss.length/\ ∀(k:Nat)(r:Rv),rs[k]?=some r-> ∃sl,ss[k]?=some sl/\dY Y r=some sl:=by intro rs ss h;induction rs generalizing ss with
 |nil=>obtain rfl:=aE (show some []=some ss from h);exact⟨rfl,λk r e=>by simp at e⟩
 |cons r rs ih=>refine er (mU h) λsl Mu q=>?_;refine O q.1 ?_;have Q:=ih q.2.2;refine⟨by simp[Q.1],λk r' e=>?_⟩;cases k with
  |zero=>simp at e;subst e;exact⟨sl,rfl,q.2.1⟩
  |succ k=>simpa using Q.2 k r' e
set_option tactic.hygienic true in
theorem pM{r:Rv}{sl:Slot}(h:dY Y r=some sl)(hl:sl.lent=true):∃i,r = .pl (.var i)/\Y[i]?=some sl:=by unfold dY at h;split at h<;>first
  |(obtain rfl:=aE h;exact nomatch hl;done)
  |(rename_i i;refine⟨i,rfl,?_⟩;split at h<;>first|(exact am h;cases hl;done)|(refine O (aE h).symm ?_;assumption)|(exact am h;done))
  |(exact am h;done)
noncomputable def gx(KK:VP)(rs:List Rv)(a:Addr):Option Nat:=(KK a).bind λi=>fE rs i 0
noncomputable def oq(rs:List Rv)(k:Nat):Option Nat:=match rs[k]? with
 |some (.pl<|.var i)=>some i
 |_=>none
noncomputable def jb(KK cK:VP)(rs:List Rv)(a:Addr):Option Nat:=match cK a with
 |some k=>oq rs k
 |none=>match KK a with
  |some i=>(match fE rs i 0 with
   |some _=>none
   |none=>some i)
  |none=>none
theorem wy{KK:VP}{k:Nat}(h:gx KK rs a=some k):∃i,KK a=some i/\fE rs i 0=some k:=Option.bind_eq_some_iff.mp h
theorem iw{KK:VP}(h:gx KK rs a≠none):KK a≠none:=λe=>h (by unfold gx;refine O e ?_;rfl)
section
variable {y:Lay}{KK:VP}{Z:VQ}{s s':Shared}{Y:Fm}{rs:List Rv}{ss aM:List Slot}{vs:VU}
theorem FU(I:Inv y KK Z s.heap Y)(rs:List Rv):Gh (λa=>y.F a\/a=y.L) (gx KK rs) Z s.heap where
 base:=I.base
 zb:=I.zb
 zo:=λa z=>by unfold gx;refine O (I.zo a z) ?_;rfl
 zF:=λa z f=>f.elim (I.zF a z) λe=>I.zL<|e▸z
 oF:=λa h f=>f.elim (I.oF a<|iw h) λe=>iw h<|e▸I.oL
 zlv:=I.zlv
 olv:=λa h=>I.olv a<|iw h
 flv:=λa f=>f.elim (I.flv a) λe=>let ⟨m,o,_,_,h,hd,_⟩:=I.nsL;⟨o,e▸h,λvs q=>by have q:=hd▸q;exact nomatch q⟩
noncomputable def xP(as:VS):List Rv:=as.map λi=>.pl<|.var i
theorem m8(as:VS)(rs:List Rv):d7 (xP as++rs)=as++d7 rs:=by induction as with
 |nil=>rfl
 |cons i as ih=>exact Y2 (i :: ·) ih
theorem vL{as:VS}{rs:List Rv}{k:Nat}(h:as[k]?=some i):(xP as++rs)[k]?=some (.pl<|.var i):=by refine O (ZM (by unfold xP;exact O (ZG _)<|(List.getElem?_eq_some_iff.mp h).1)) ?_;unfold xP;exact O ZJ<|O h rfl
theorem rZ{as:VS}{rs:List Rv}{k:Nat}:(xP as++rs)[as.length+k]?=rs[k]?:=by refine O (ZL (by exact O (ZG _)<|Zl _ _)) ?_;exact O (ZG _)<|Y2 (rs[·]?)<|Zm _ _
structure ya(y:Lay)(as:VS)(J:Ins):Prop where
 len:as.length=mD J
 at':∀(k i:Nat),as[k]?=some i-> ∃l,j3 J k=some l/\y.loc i=some l
 full:∀i l,y.loc i=some l->yg J l.addr-> ∃(k:Nat)(a:Addr)(ns:VT)(x:Str),as[k]?=some i/\l = .attr a ns x
 si:∀p,y.slf=some p->y.si∉as
 slf:∀x o dx,J=some (x,o,dx)->y.slf=some (x,o)/\(∃c C,tb.cr=some c/\mg c.name=some (.ref C)/\o.cls = .ref C)/\(∀c,o.data≠ .cls c)/\o.dict=some dx/\dx≠x/\ ∃i a,y.loc i=some (.attr dx tb.an a)
theorem rT{as:VS}{J:Ins}(I:Inv y KK Z s.heap Y)(q:ya y as J)(rs:List Rv):uG (λa=>y.F a\/a=y.L) (gx KK rs) Z s.heap J:=λx o dx e=>by refine ak λG g=>?_;obtain⟨e1,e2,e3,e4,e5,i,a,hl⟩:=q.slf x o dx e;exact g<|⟨(I.sf _ e1).z,(I.sf _ e1).ob,e2,e3,e4,e5,I.zl i _ hl,by unfold gx;exact O (I.ol i _ hl) rfl,λf=>f.elim (I.wf.nf i _ hl)<|I.wf.al i _ _ _ hl,I.ok i _ hl⟩
theorem n4{as:VS}{Y:Fm}{k:Nat}{sl:Slot}(h:(gg Y as)[k]?=some sl)(n:sl≠ .no):∃i,as[k]?=some i/\Y[i]?=some sl:=by unfold gg at h;rw[ZJ]at h;refine aB (Z9 h) λi Q=>?_;have hi:=Q.1;have e:=Q.2;refine⟨i,hi,?_⟩;cases q:Y[i]? with
 |none=>rw[q]at e;exact absurd e.symm n
 |some x=>rw[q]at e;exact Y2 some e
set_option tactic.hygienic true in
theorem uy{as:VS}{J:Ins}(I:Inv y KK Z s.heap Y)(hr:ey y KK Z h₀ s.heap rs vs)(hs:da Y rs=some ss)(nd:(as++d7 rs).Nodup)(q:ya y as J):iJ J (gx KK<|xP as++rs) Z s.heap (gg Y as++ss) vs:=by
 obtain⟨eZ,tR⟩:=jP hs;have S5:(d7<|xP as++rs).Nodup:=by rw[m8];exact nd
 have la:(gg Y as).length=mD J:=by unfold gg;exact O (ZG _) q.len
 have mo:∀{i k:Nat},(xP as++rs)[k]?=some (.pl<|.var i)-> ∀a,KK a=some i->gx KK (xP as++rs) a=some k:=λhk a e=>by unfold gx;refine O e ?_;show fE _ _ 0=_;refine O (yW S5 hk) ?_;rw[Y8]
 refine⟨by exact O ZI<|O la<|O eZ.symm<|O hr.length rfl,λk sl l e hl n=>?_,λk sl v e e'=>?_⟩
 .have hk:=(eO hl).1;rw[ZM (by refine O la ?_;exact hk)]at e;refine ak λG g=>?_;obtain⟨i,hi,hf⟩:=n4 e n;obtain⟨l',cC,hy⟩:=q.at' k i hi;rw[hl]at cC;obtain rfl:=aE cC;obtain⟨l2,v,vn,QX,sv⟩:=I.at' i sl hf n;rw[hy]at vn;obtain rfl:=aE vn;exact g<|⟨v,QX,sv.mono (λaa ai br e=>e) (λaa z=>z) (mo<|vL hi) λaa ai br e=>e⟩
 .have e:=la.symm▸e;rw[ZL<|Zl _ _,Zm]at e;have hk:k<rs.length:=by exact O eZ ((List.getElem?_eq_some_iff.mp e).1)
  obtain⟨wg,e2,h2⟩:=tR k _<|ZK hk;have e2:=e▸e2;refine O (aE e2) ?_;have q1:=hr.get (ZK hk) e';generalize UK:rs[k]=r at *;have QV:rs[k]?=some r:=by exact O (ZK hk)<|O UK rfl
  cases r with
  |fz d=>obtain rfl:=aE h2;exact⟨(λn=>by exact nomatch n),q1⟩
  |KK d=>obtain rfl:=aE h2;exact⟨(λn=>by cases n),q1⟩
  |pl p=>cases p with
   |var i=>
    obtain⟨l,q1⟩:=q1;have hl:=q1.1;have hv:=q1.2;have key:∀sl,Y[i]?=some sl->sl≠ .no->dH s.heap Z (λa=>KK a=some i) sl v:=λsl e n=>by obtain⟨l',v',cC,wX,q⟩:=I.at' i sl e n;rw[hl]at cC;obtain rfl:=aE cC;exact O (hv.det wX) q
    have mo:=mo (i:=i) (k:=mD J+k) (by refine O q.len.symm<|O rZ ?_;exact QV);simp only[dY]at h2;split at h2
    .rename_i d e9;exact O (aE h2).symm<|⟨(λn=>by exact nomatch n),key _ e9 (by intro n;exact nomatch n)⟩
    .rename_i d e9;obtain rfl:=aE h2;exact⟨(λn=>by cases n),(key _ e9 (by intro n;exact nomatch n)).mono (λaa ai br e=>e) (λaa z=>z) mo λaa ai br e=>e⟩
    .exact am h2
theorem dI(hn:h.Ns a m)(k:∀o,h.get? a=some o-> ∃sl,h'.get? a=some {o with slots:=sl}):h'.Ns a m:=by exact kF hn λo es ep hn=>(aB (k o hn.1) λsl e=>(⟨_,es,ep,e,hn.2⟩))
theorem rO:∀{rs:List Rv}{ss aM:List Slot}{vs:VU}{Y:Fm}{k j:Nat}{sl:Slot},gI ag Z' h k ss vs aM->rs.length=ss.length->ss.length=vs.length->
  (∀(m:Nat)(r:Rv)(sl:Slot),rs[m]?=some r->ss[m]?=some sl->sl.lent=true-> ∃i,r = .pl (.var i))->(dg Y rs ss aM)[j]?=some sl->
  (∃(m:Nat)(s0:Slot)(v:Value),rs[m]?=some (.pl<|.var j)/\ss[m]?=some s0/\s0.lent=true/\vs[m]?=some v/\(sl≠ .no->dH h Z' (λa=>ag a=some (k+m)) sl v))\/(Y[j]?=some sl/\((d7 rs).Nodup-> ∀(m:Nat)(s0:Slot),rs[m]?=some (.pl<|.var j)->ss[m]?=some s0->s0.lent=false)):=by
 intro rs ss aM vs Y k j sl Fr h h9 hl e;induction rs generalizing ss aM vs Y k j sl Fr h9 with
 |nil=>refine .inr ⟨?_,λaa m s0 e=>by simp at e⟩;cases ss with
   |nil=>exact e
   |cons x1 x2=>exact absurd h.symm<|Nat.succ_ne_zero _
 |cons r rs ih=>cases ss with
  |nil=>simp at h
  |cons s0 ss=>cases vs with
   |nil=>simp at h9
   |cons v vs=>
     have TF:rs.length=ss.length:=by simpa using h
     have TC:ss.length=vs.length:=by simpa using h9
     have cC:∀(m:Nat)(r:Rv)(sl:Slot),rs[m]?=some r->ss[m]?=some sl->sl.lent=true-> ∃i,r = .pl (.var i):=λm r sl e1 e2=>hl (m+1) r sl e1 e2;rw[r5]at Fr;rw[xG]at e;by_cases q:s0.lent=true
     .rw[YX q]at Fr;obtain⟨o,os,Fr⟩:=Fr;obtain rfl:=Fr.1;refine aB (hl 0 r s0 rfl rfl q) λi Q=>?_;subst Q;rw[YX q]at e;dsimp only at e;rcases ih Fr.2.2 TF TC cC e with⟨m,s1,v',a1,a2,a3,a4,a5⟩|⟨a1,a2⟩
      .exact .inl ⟨m+1,s1,v',by exact a1,by exact a2,a3,by exact a4,λn=>by have:=a5 n;rwa [show k+1+m=k+(m+1) from by exact(Zk (L0 [k,m] (.a (.p 1 .x) .y) (.a .x<|.p 1 .y) rfl)<|L0 [k,m] (.a .x<|.p 1 .y) (.a (.p 1 .x) .y) rfl)]at this⟩
      .rcases dB a1 with⟨rfl,rfl⟩|⟨de,a1⟩
       .exact .inl ⟨0,s0,v,rfl,rfl,q,rfl,Fr.2.1⟩
       .refine .inr ⟨a1,λnd m s1 e1 e2=>?_⟩;refine ak λG2 g2=>?_;cases m with
        |zero=>refine g2 ?_;cases Y5 (show some (Rv.pl<|.var _)=some (Rv.pl<|.var _) from e1);exact absurd rfl de
        |succ m=>exact g2<|a2 (nodup_cons.mp nd).2 m s1 e1 e2
     .rw[YY q]at Fr e;rcases ih Fr TF TC cC e with⟨m,s1,v',a1,a2,a3,a4,a5⟩|⟨a1,a2⟩
      .exact .inl ⟨m+1,s1,v',by exact a1,by exact a2,a3,by exact a4,λn=>by have:=a5 n;rwa [show k+1+m=k+(m+1) from by exact(Zk (L0 [k,m] (.a (.p 1 .x) .y) (.a .x<|.p 1 .y) rfl)<|L0 [k,m] (.a .x<|.p 1 .y) (.a (.p 1 .x) .y) rfl)]at this⟩
      .refine .inr ⟨a1,λnd m s1 e1 e2=>?_⟩;refine ak λG3 g3=>?_;cases m with
       |zero=>refine g3 ?_;simp at e2;subst e2;simpa using q
       |succ m=>refine g3 ?_;refine a2 ?_ m s1 e1 e2;refine ak λG g=>?_;cases r with
        |pl p=>refine g ?_;refine ak λG1 g1=>?_;cases p with
         |var i=>exact g1 (nodup_cons.mp nd).2
        |fz _=>exact g nd
        |KK _=>exact g nd
set_option tactic.hygienic true in
theorem jY{KK cK:VP}{rs:List Rv}(h:jb KK cK rs a=some i):(∃k,cK a=some k/\rs[k]?=some (.pl<|.var i))\/(cK a=none/\KK a=some i/\fE rs i 0=none):=by
 unfold jb at h;refine ak λG g=>?_;split at h
 .refine g ?_;rename_i k hk;unfold oq at h;split at h
  .rename_i j hj;exact O (aE h).symm<|.inl ⟨k,hk,hj⟩
  .exact am h
 .refine g ?_;rename_i hk;split at h
  .rename_i j hj;split at h
   .exact am h
   .rename_i hp;exact O (aE h).symm<|.inr ⟨hk,hj,hp⟩
  .exact am h
theorem lD:∀{as:VS}{aM:List Slot}{Y:Fm}{j:Nat}{sl:Slot},as.Nodup->as.length<=aM.length->(eB Y as aM)[j]?=some sl->(∃k:Nat,as[k]?=some j/\aM[k]?=some sl)\/(j∉as/\Y[j]?=some sl):=by intro as;induction as with
 |nil=>intro aM Y j sl _ _ h;exact .inr ⟨(λq=>by exact nomatch q),by cases aM<;>exact h⟩
 |cons i as ih=>intro aM Y j sl nd hl h;cases aM with
  |nil=>exact absurd hl<|Zb _
  |cons o os=>
   rcases ih (nodup_cons.mp nd).2 (Zi hl) (show(eB (Y.set i o) as os)[j]?=some sl from h) with⟨k,h1,h2⟩|⟨h1,h2⟩
   .exact .inl ⟨k+1,h1,h2⟩
   .rcases dB h2 with⟨rfl,rfl⟩|⟨de,h2⟩
    .exact .inl ⟨0,rfl,rfl⟩
    .exact .inr ⟨λq=>(mem_cons.mp q).elim de h1,h2⟩
noncomputable def DL(rb as:VS):VS:=rb.filterMap λk=>as[k]?
theorem oA{as:VS}(h:i∈DL rb as):i∈as:=by obtain⟨k,_,e⟩:=mem_filterMap.mp h;exact Zs e
theorem xM{as:VS}{J:Ins}{m9:VW Rv}{r:Result}(I:Inv y KK Z s.heap Y)(hr:ey y KK Z h₀ s.heap rs vs)(hs:da Y rs=some ss)(nd:(as++d7 rs).Nodup)(q:ya y as J)
  (P:gi J rb (λa=>y.F a\/a=y.L) (gx KK<|xP as++rs) Z s (gg Y as++ss) vs m9 aM r s'):
  ∃ag Z',Inv y ag Z' s'.heap (dg (eB Y as aM) rs ss<|aM.drop as.length)/\Step y (DL rb as) KK Z s ag Z' s'/\((∃rv v,m9 = .ok rv/\r = .ok (.ret v)/\eD y ag Z' s.heap s'.heap rv v)\/
   ∃nm a,m9 = .error nm/\r = .error (.ref a)/\i6 s'.heap (λb=>s.heap.get? b=none/\ ¬y.wr ag b/\ ¬y.F b/\ ¬Z' b) a nm):=by
 obtain⟨cK,Z',G,IJ,S,AT,jR,Fr,R⟩:=P;have S5:(d7<|xP as++rs).Nodup:=by rw[m8];exact nd
 have Uu:as.Nodup:=(nodup_append.mp nd).1;have Ut:(d7 rs).Nodup:=(nodup_append.mp nd).2.1;have Vm:∀i,i∈d7 rs->i∉as:=λi h1 h2=>(nodup_append.mp nd).2.2 i h2 i h1 rfl;have la:(gg Y as).length=as.length:=by unfold gg;exact ZG _
 have u:=jP hs;have eZ:=u.1;have tR:=u.2;have NS:ss.length=vs.length:=by exact O eZ.symm<|O hr.length rfl
 rw[<- q.len,<- la,List.drop_left]at Fr;rw[la]at Fr;have Vu:=rT I q<|xP as++rs;have dz:∀a,yg J a-> ¬Z a:=λa ⟨x,o,e⟩=>(Vu x o a e).zd;have TS:∀(k i:Nat) l,as[k]?=some i->y.loc i=some l->j3 J k=some l:=λk i l e hl=>by obtain⟨l',h1,h2⟩:=q.at' k i e;rw[hl]at h2;obtain rfl:=aE h2;exact h1
 generalize hR:xP as++rs=RS at *;have TY:∀(k i:Nat),as[k]?=some i->RS[k]?=some (.pl<|.var i):=λk i e=>hR▸vL e;have TX:∀k:Nat,RS[as.length+k]?=rs[k]?:=λk=>hR▸rZ
 -- HY stays
 have nwr:∀a,KK a=none-> ¬yg J a-> ¬(gx KK RS a≠none\/yg J a):=λa e n w=>w.elim (λw=>iw w e) n;have keep:∀a o,s.heap.get? a=some o->KK a=none-> ¬y.F a->a≠y.L-> ¬yg J a->s'.heap.get? a=some o:=λa o e n f l nx=>S.ext.keep a o e (nwr a n nx) λw=>w.elim f l;have Nk:∀a o,s.heap.get? a=some o->gx KK RS a=none-> ¬y.F a->a≠y.L-> ¬yg J a->s'.heap.get? a=some o:=λa o e n f l nx=>S.ext.keep a o e (λw=>w.elim (λw=>w n) nx) λw=>w.elim f l;have keepZ:∀a o,Z a->s.heap.get? a=some o->s'.heap.get? a=some o:=λa o z e=>keep a o e (I.zo a z) (I.zF a z) (λq=>I.zL<|q▸z) λx=>dz a x z;have Iu:∀o,s.heap.get? y.L=some o-> ∃sl,s'.heap.get? y.L=some {o with slots:=sl}:=λo e=>S.ext.fram y.L o (.inr rfl) e;have Ur:∀a,KK a≠none-> ¬yg J a:=λa h ⟨x,o,e⟩=>by obtain⟨_,_,_,_,_,i,z,hl⟩:=q.slf x o a e;exact h<|I.ol i _ hl
 have GG:∀i l v,i∉DL rb as->y.loc i=some l->eU s.heap l v->eU s'.heap l v:=λi l v hb hl hv=>by
  by_cases hx:yg J l.addr
  .obtain⟨k,_,_,_,hk,_⟩:=q.full i l hl hx;exact S.bind k l v (λm=>hb<|mem_filterMap.mpr ⟨k,m,hk⟩) (TS k i l hk hl) hv
  by_cases e:l.addr=y.L
  .cases l with
   |dict a x=>obtain⟨m,hv⟩:=hv;subst e;exact⟨m,dI hv.1 Iu,hv.2⟩
   |cell a=>exact absurd e<|I.wf.cl i a hl
   |attr a ns x=>exact absurd e<|I.wf.al i a ns x hl
  .exact hv.keeps λo e'=>keep _ o e' (I.ol i l hl) (I.wf.nf i l hl) e hx
 have Qr:∀i l,y.loc i=some l->qD s.heap l->qD s'.heap l:=λi l hl hv=>by
  by_cases hx:yg J l.addr
  .obtain⟨k,a,ns,x,hk,rfl⟩:=q.full i l hl hx;have h1:=TS k i _ hk hl;obtain⟨x0,o0,hJ⟩:=hx;subst hJ;obtain⟨z,_,e⟩:=Z9 h1;cases e;exact(IJ x0 o0 _ rfl).ok
  by_cases e:l.addr=y.L
  .cases l with
   |dict a x=>obtain⟨m,hn⟩:=hv;subst e;exact⟨m,dI hn Iu⟩
   |cell a=>exact absurd e<|I.wf.cl i a hl
   |attr a ns x=>exact absurd e<|I.wf.al i a ns x hl
  .exact hv.keeps λo e'=>keep _ o e' (I.ol i l hl) (I.wf.nf i l hl) e hx
 have nN:∀a o,s.heap.get? a=some o->gx KK RS a=none->cK a=none:=λa o e n=>by cases q:cK a with
  |none=>rfl
  |some k=>
   rcases S.on a k q with q|q
   .rw[n]at q;exact am q
   .have q:=e▸q;exact nomatch q
 have oB:∀a i,jb KK cK RS a=some i->KK a=some i\/s.heap.get? a=none:=λa i q=>by
  rcases jY q with⟨k,hk,hj⟩|⟨_,q,_⟩
  .rcases S.on a k hk with q|q
   .refine aB (wy q) λi' U=>?_;obtain⟨_,h2⟩:=ng U.2;rw[Nat.sub_zero]at h2;have h2:=hj▸h2;cases h2;exact .inl U.1
   .exact .inr q
  .exact .inl q
 have Qt:∀a,jb KK cK RS a≠none->cK a≠none\/(gx KK RS a=none/\KK a≠none):=λa q=>by cases e:jb KK cK RS a with
  |none=>exact absurd e q
  |some i=>
   rcases jY e with⟨k,hk,_⟩|⟨_,h,hp⟩
   .exact .inl (by refine O hk ?_;exact λn=>by exact nomatch n)
   .exact .inr ⟨by unfold gx;refine O h ?_;exact hp,by refine O h ?_;exact λn=>by cases n⟩
 have zn:∀a,Z' a->Z a\/KK a≠none\/s.heap.get? a=none:=λa z=>(S.zn a z).imp id λq=>q.imp iw id;have Ue:∀p,y.slf=some p->y.si∉DL rb as:=λp e m=>q.si p e<|oA m;have inv:Inv y (jb KK cK RS) Z' s'.heap (dg (eB Y as aM) rs ss<|aM.drop as.length):=by
  refine⟨I.wf,G.base,G.zb,λa z=>?_,λi l hl z=>?_,λi l hl=>?_,λz=>?_,?_,λa z f=>G.zF a z<|.inl f,λa q f=>?_,G.zlv,λa q=>?_,λa f=>G.flv a<|.inl f,λi l hl=>Qr i l hl<|I.ok i l hl,?_,λp e=>(I.sf p e).mono keepZ S.zm λl v hl r=>GG _ l v (Ue p e) hl r,λj sl e n=>?_⟩
  .-- zo
   cases q:jb KK cK RS a with
   |none=>rfl
   |some i=>
    rcases jY q with⟨k,hk,_⟩|⟨hN,ho,hp⟩
    .rw[G.zo a z]at hk;exact am hk
    .rcases S.zn a z with z|z|z
     .rw[I.zo a z]at ho;exact am ho
     .exact absurd (by unfold gx;refine O ho ?_;exact hp) z
     .obtain⟨o,e⟩:=I.olv a (by refine O ho ?_;exact λn=>by exact nomatch n);rw[z]at e;exact am e
  .-- zl
   obtain⟨o,e⟩:=(I.ok i l hl).live;rcases S.zn _ z with z|z|z
   .exact I.zl i l hl z
   .exact iw z (I.ol i l hl)
   .rw[z]at e;exact am e
  .-- ol
   cases q:jb KK cK RS l.addr with
   |none=>rfl
   |some k=>
    obtain⟨o,e⟩:=(I.ok i l hl).live;rcases oB _ _ q with q|q
    .rw[I.ol i l hl]at q;exact am q
    .rw[q]at e;exact am e
  .exact G.zF _ z (.inr rfl)
  .cases q:jb KK cK RS y.L with
   |none=>rfl
   |some k=>
    refine pc I.nsL λm o aa ai Q=>?_;have e:=Q.1;rcases oB _ _ q with q|q
    .rw[I.oL]at q;exact am q
    .rw[q]at e;exact am e
  .rcases Qt a q with q|⟨q,q'⟩
   .exact G.oF a q (.inl f)
   .exact I.oF a q' f
  .rcases Qt a q with q|⟨q,q'⟩
   .exact G.olv a q
   .obtain⟨o,e⟩:=I.olv a q';exact S.ext.live a o e
  .obtain⟨m,hn⟩:=I.nsL;exact⟨m,dI hn Iu⟩
  .-- the slots
   rcases rO Fr eZ NS (λm r sl e1 e2 hl=>by obtain⟨wg,e3,h3⟩:=tR m r e1;rw[e2]at e3;obtain rfl:=aE e3;obtain⟨i,J⟩:=pM h3 hl;exact⟨i,J.1⟩) e with⟨m,s0,v',a1,a2,a3,a4,a5⟩|⟨a1,a2⟩
   .have q1:=hr.get a1 a4;refine aB q1 λl q1=>?_;refine⟨l,v',q1.1,GG j l v' (λm=>Vm j (nA a1)<|oA m) q1.1 q1.2,(a5 n).mono (λaa ai br e=>e) (λaa z=>z) (λb hb=>?_) λaa ai br e=>e⟩;unfold jb;refine O hb ?_;dsimp only;unfold oq;exact O (TX m)<|O a1 rfl
   rcases lD Uu (q.len▸jR) a1 with⟨k,hk,ho⟩|⟨hj,a1⟩
   .obtain⟨l,hl,hy⟩:=q.at' k j hk;obtain⟨v,hv,sv⟩:=AT k sl l ho hl n;refine⟨l,v,hy,hv,sv.mono (λaa ai br e=>e) (λaa z=>z) (λb hb=>?_) λaa ai br e=>e⟩;unfold jb;refine O hb ?_;dsimp only;unfold oq;exact O (TY k j hk) rfl
   .obtain⟨l,v',hl,hv,q1⟩:=I.at' j sl a1 n;refine⟨l,v',hl,GG j l v' (λm=>hj<|oA m) hl hv,?_⟩;have key:∀a,KK a=some j->(∃o,s.heap.get? a=some o)->(∀(m':Nat)(s1:Slot),rs[m']?=some (.pl<|.var j)->ss[m']?=some s1->dY Y (.pl<|.var j)=some s1->False)->jb KK cK RS a=some j/\ ∀o,s.heap.get? a=some o->s'.heap.get? a=some o:=λa Jg lv no=>by
     refine aB lv λo ho=>?_;have hp:fE RS j 0=none:=by cases qq:fE RS j 0 with
      |none=>rfl
      |some m=>
       obtain⟨_,h2⟩:=ng qq;rw[Nat.sub_zero]at h2;by_cases hm:m<as.length
       .have:=TY m _ (ZK hm)
        rw[this]at h2;cases h2;exact absurd (getElem_mem hm) hj
       .obtain⟨m',rfl⟩:=Nat.exists_eq_add_of_le<|Nat.not_lt.mp hm;rw[TX]at h2;obtain⟨s1,e1,h1⟩:=tR m' _ h2;exact(no m' s1 h2 e1 h1).elim
     have hC:gx KK RS a=none:=by unfold gx;exact O Jg hp
     have SW:KK a≠none:=by rw[Jg];exact λn=>by exact nomatch n
     refine⟨?_,λo e=>Nk a o e hC (I.oF a SW) (λq=>by rw[q,I.oL]at Jg;exact am Jg)<|Ur a SW⟩;unfold jb;refine O (nN a o ho hC)<|O Jg ?_;dsimp only;exact O hp rfl
    cases sl with
    |no=>exact absurd rfl n
    |fz d=>exact bE.mono keepZ S.zm q1
    |KK d=>
     obtain⟨a,q1⟩:=q1;refine O q1.1 ?_;have k:=key a q1.2.1 q1.2.2.live λm' s1 h2 e1 h1=>by
      have:s1 = .KK d:=by simp only[dY,a1]at h1;exact(Y5 h1).symm
      subst this;exact absurd (a2 Ut m' _ h2 e1) (by intro q;exact ff q)
     exact⟨a,rfl,k.1,q1.2.2.mono keepZ S.zm k.2⟩
    |tab X=>
     obtain⟨a,q1⟩:=q1;refine O q1.1 ?_;have k:=key a q1.2.1 q1.2.2.live λm' s1 h2 e1 h1=>by simp only[dY,a1]at h1;exact am h1
     exact⟨a,rfl,k.1,q1.2.2.mono keepZ S.zm k.2⟩
 have SY:∀a,s.heap.get? a=none->cK a=none-> ¬y.wr (jb KK cK RS) a:=λa e0 on wr=>by
  have f:=I.fresh e0;rcases wr with wr|wr|wr
  .rcases Qt a wr with q|⟨_,q⟩
   .exact q on
   .exact f.1 (.inl q)
  .exact f.1 (.inr<|.inl wr)
  .exact f.1 (.inr<|.inr wr)
 refine⟨jb KK cK RS,Z',inv,⟨S.sh,⟨λa o e nw nf=>?_,S.ext.live,λa o f e=>S.ext.fram a o (.inl f) e⟩,S.zm,zn,oB,λi l v hb hl hv=>GG i l v hb hl hv⟩,?_⟩
 .refine keep a o e ?_ nf (λq=>nw<|.inr<|.inl q) λ⟨x,o',hJ⟩=>?_
  .cases q:KK a with
   |none=>rfl
   |some i=>exact absurd (.inl (by refine O q ?_;exact λn=>by exact nomatch n)) nw
  .obtain⟨_,_,_,_,_,i,z,hl⟩:=q.slf x o' a hJ;exact nw<|.inr<|.inr ⟨i,_,hl,rfl⟩
 .rcases R with⟨rv,v,e1,e2,R⟩|⟨nm,a,e1,e2,Id⟩
  .refine .inl ⟨rv,v,e1,e2,?_⟩;cases rv with
   |fz d=>exact R
   |KK d=>obtain⟨a,R⟩:=R;refine O R.1 ?_;exact⟨a,rfl,R.2.1,SY a R.2.1 R.2.2.1,λq=>R.2.2.2.1<|.inl q,R.2.2.2.2.1,R.2.2.2.2.2⟩
   |pl p=>exact R.elim
  .exact .inr ⟨nm,a,e1,e2,Id.mono λb _ _ ⟨h1,h2,h3,h4⟩=>⟨h1,SY b h1 h2,λq=>h3<|.inl q,h4⟩⟩
end
inductive aV{β:Type}(y:Lay)(bv:VS)(KK:VP)(Z:VQ)(s:Shared)(LT:VW β×Fm)(e:Value)(s':Shared):Prop
 |mk (nm:Str) (a:Addr) (ag:VP) (Z':VQ):LT.1 = .error nm->e = .ref a->Inv y ag Z' s'.heap LT.2->Step y bv KK Z s ag Z' s'->i6 s'.heap (λb=>s.heap.get? b=none/\ ¬y.wr ag b/\ ¬y.F b/\ ¬Z' b) a nm->aV y bv KK Z s LT e s'
section
variable {y:Lay}{bv bv':VS}{KK af:VP}{Z au:VQ}{s s₁ s':Shared}{e:Value}
theorem aV.elim{p:Prop}{r:β}{f:Fm}(x:aV y bv KK Z s ((.ok r:VW β),f) e s'):p:=by obtain⟨_,_,_,_,q,_⟩:=x;exact Kr q
theorem aV.up{γ:Type}{f:Fm}(hb:∀i∈bv,i∈bv')(S:Step y bv' KK Z s af au s₁)(x:aV y bv af au s₁ ((.error nm:VW β),f) e s'):aV y bv' KK Z s ((.error nm:VW γ),f) e s':=by refine ak λG g=>?_;obtain⟨CA,a,ag,Z',q,e1,I,S',Id⟩:=x;cases q;exact g<|⟨_,a,ag,Z',rfl,e1,I,S.trans<|S'.sub hb,Id.mono λb aa ai h=>⟨S.old b h.1,h.2⟩⟩
theorem aV.sub{LT:VW β×Fm}(hb:∀i∈bv,i∈bv')(S:Step y bv' KK Z s af au s₁)(x:aV y bv af au s₁ LT e s'):aV y bv' KK Z s LT e s':=by obtain⟨nm,a,ag,Z',q,e1,I,S',Id⟩:=x;exact⟨nm,a,ag,Z',q,e1,I,S.trans<|S'.sub hb,Id.mono λb aa ai h=>⟨S.old b h.1,h.2⟩⟩
end
structure Rn(A:Around)(c:Cfg)(n:Nat):Prop where
 gd:Gd c.glob
 cs:sj n c.call
 dep:A.depth+2*n+1<=999
 un:A.units+8*n+4<=4000
 hh:c.hd=false->A.handled=none
section
variable {c:Cfg}
def VO(m:bF Rv):Prop:= ∀r dU,m=some (.ok r,dU)-> ∃d,c5 r=some d
namespace VO
variable {Y:Fm}
theorem no:VO none:=λaa ai h=>am h
theorem fz{d:D}:VO (some (.ok<|.fz d,Y)):=λaa ai h=>by obtain⟨rfl,rfl⟩:=wB h;exact⟨_,rfl⟩
theorem KK{d:D}:VO (some (.ok<|.KK d,Y)):=λaa ai h=>by obtain⟨rfl,rfl⟩:=wB h;exact⟨_,rfl⟩
theorem err{e:Str}:VO (some (.error e,Y)):=λaa ai h=>by cases h
theorem bd{m:bF α}{k:α->Fm->bF Rv}(h:∀a Y,VO<|k a Y):VO (aT m k):=by
 rcases m with _|⟨_|a,f⟩
 .exact no
 .exact err
 .exact h a f
theorem bdC{cl:VS}{m:bF α}{k:α->Fm->bF Rv}(h:∀a Y,VO<|k a Y):VO (rY cl m k):=by
 rcases m with _|⟨_|a,f⟩
 .exact no
 .exact err
 .exact h a f
theorem okv{m:Option Rv}:VO (DV Y m):=by
 rcases m with _|⟨_|_|_⟩
 .exact no
 .exact fz
 .exact KK
 .exact no
theorem okf{f:α->D}{m:Option α}:VO (th Y<|m.map λa=>Rv.fz<|f a):=by cases m with
 |none=>exact no
 |some a=>exact fz
theorem okl{f:α->D}{m:Option α}:VO (th Y<|m.map λa=>Rv.KK<|f a):=by cases m with
 |none=>exact no
 |some a=>exact KK
theorem it{p:Prop}[Decidable p]{a b:bF Rv}(h:VO a)(k:VO b):VO (if p then a else b):=by
 by_cases q:p
 .exact O (YX q) h
 .exact O (YY q) k
theorem r{r:Rv}{d:D}(h:c5 r=some d):VO (some (.ok r,Y)):=λaa ai q=>by obtain⟨rfl,rfl⟩:=wB q;exact⟨d,h⟩
theorem sv{r:Rv}{g:D->bF Rv}(h:∀d,c5 r=some d->VO (g d)):VO (Mv.mo (c5 r) g):=by cases q:c5 r with
 |none=>exact no
 |some d=>exact h d q
theorem mo{o:Option α}{F:α->bF Rv}(h:∀a,VO<|F a):VO (Mv.mo o F):=by cases o with
 |none=>exact no
 |some a=>exact h a
end VO
theorem rW{as:VS} :VO (nU c f as rs Y):=by exact .mo λss=>.it (.mo λo=>.bd λr Y=>.sv λaa h=>.r h) .no
theorem Kp{j:Bool}(es:List Ex)(Y:Fm):VO (Hn c j es Y):=by induction es generalizing Y with
 |nil=>exact .no
 |cons e x ih=>refine .bd λr Y=>.sv λd hd=>?_;cases x with
  |nil=>exact .r hd
  |cons e' x=>exact .it (ih Y)<|.r hd
inductive Cw(c:Cfg)(f:Nat)(o:Option Slot)(Y:Fm)(LT:VW Rv×Fm):Prop
 |mk (M:VX) (d:D) (aM:List Slot):o=some (.KK<|.list M)->c.call c.hd f [.fz<|.list M]=some (.ok<|.fz d,aM)->b9 d=true->LT=(.ok<|.fz d,Y)->Cw c f o Y LT
theorem ml{o:Option Slot}(h:pL c f o Y=some LT):Cw c f o Y LT:=by
 rcases o with _|⟨_|_|d|_⟩
 .exact am h
 .exact am h
 .exact am h
 .cases d with
  |list M=>
   delta pL at h;dsimp only at h;rcases q:c.call c.hd f [.fz<|.list M]with _|⟨_|⟨d|d|p⟩,aM⟩
   .rw[q]at h;exact am h
   .rw[q]at h;exact am h
   .rw[q]at h;obtain⟨k,rfl⟩:=ed h;exact⟨M,d,aM,rfl,q,k,rfl⟩
   .rw[q]at h;exact am h
   .rw[q]at h;exact am h
  |_=>exact am h
 .exact am h
theorem Of(x:Ex)(Y:Fm)(hx:∀p,x≠ .pl p):VO (ev c x Y):=by cases x with
 |lit d=>exact .fz
 |gl k=>exact .mo λaa=>.fz
 |var i=>rw[Ko];rcases Y[i]? with _|⟨_|_|_|_|_⟩<;>first|exact .no|exact .fz
 |pl p=>exact absurd rfl<|hx p
 |tup es=>exact .bd λaa ai=>.okf
 |list es=>exact .bd λaa ai=>.okl
 |op2 o a b=>exact .bd λx aa=>.bd λy Y=>.mo λaa=>.mo λaa=>.okv
 |neg a=>exact .bd λx aa=>.mo λaa=>.okf (f:=id)
 |not a=>exact .bd λx Y=>.mo λaa=>.fz
 |cmp o a b=>exact .bd λx aa=>.bd λy Y=>.mo λaa=>.mo λaa=>.okf
 |cmp2 o p a b e=>exact .bd λx aa=>.bd λy Y=>.mo λaa=>.mo λaa=>.mo λaa=>.it (.bd λz Y=>.mo λaa=>.okf) .fz
 |bo j es=>exact Kp es Y
 |idx a i=>exact .bd λx aa=>.bd λy Y=>.mo λaa=>.mo λaa=>.okf (f:=id)
 |slc a l u=>exact .bd λx aa=>.bd λy aa=>.bd λz Y=>.mo λaa=>.mo λaa=>.mo λaa=>.okv
 |call f args=>exact .bd λaa ai=>rW
 |mcall f as args=>exact .bd λaa ai=>rW
 |callp f i=>intro r dU h;obtain⟨M,d,aM,_,_,_,e⟩:=ml h;cases e;exact⟨_,rfl⟩
 |tin i e=>exact .bd λr Y=>.mo λaa=>.mo λaa=>.it .fz .no
 |tget i e=>exact .bd λr Y=>.mo λaa=>.mo λaa=>.it (.okf (f:=id)) .no
 |bi b args=>exact .it .no<|.bd λrs Y=>.mo λaa=>.okv
 |comp cX t it bG aw=>exact .it .no<|.bd λrs Y=>.mo λaa=>.mo λaa=>.bdC λaa ai=>.KK
theorem ub{x:Ex}{dU:Fm}{r:Rv}(h:ev c x Y=some (.ok r,dU)):(∃d,c5 r=some d)\/ ∃p,r = .pl p/\x = .pl p:=by
 by_cases hx:∃p,x = .pl p
 .obtain⟨p,rfl⟩:=hx;obtain⟨rfl,rfl⟩:=wB (AE h).2;exact .inr ⟨p,rfl,rfl⟩
 .exact .inl (Of x Y (λp q=>hx ⟨p,q⟩) r dU h)
theorem dG{x:Ex}{dU:Fm}{r:Rv}{bv:VS}(h:ev c x Y=some (.ok r,dU))(ap:Apart x bv):∀i∈gq r,i∉bv:=by
 rcases ub h with⟨d,e⟩|⟨p,rfl,rfl⟩
 .refine O (nh e) ?_;intro i hi;cases hi
 .intro i hi;refine ap i ?_;cases p<;>exact hi
end
section
variable {A:Around}{c:Cfg}{n:Nat}{VN:Env}{V:Sc}{y:Lay}
 {bv bv':VS} {KK af:VP} {Z au:VQ} {s s₁:Shared} {Y aj:Fm}
def SE(A:Around)(c:Cfg)(y:Lay)(m:Sem Value)(x:Ex):Prop:= ∀(KK:VP)(Z:VQ)(s:Shared)(Y:Fm)(LT:VW Rv×Fm),ev c x Y=some LT->Inv y KK Z s.heap Y->
 wpAny (model prog w) A m (gL y (aY x) KK Z s LT) (aV y (aY x) KK Z s LT) s
inductive n7(y:Lay)(bv:VS)(KK:VP)(Z:VQ)(s:Shared)(LT:VW Rv×Fm)(b:Bool)(s':Shared):Prop
 |mk (r:Rv) (d:D) (ag:VP) (Z':VQ):LT.1 = .ok r->d6 LT.2 r=some d->b=tD d->Inv y ag Z' s'.heap LT.2->Step y bv KK Z s ag Z' s'->n7 y bv KK Z s LT b s'
def ST(A:Around)(c:Cfg)(y:Lay)(m:Sem Bool)(x:Ex):Prop:= ∀(KK:VP)(Z:VQ)(s:Shared)(Y:Fm)(LT:VW Rv×Fm),ev c x Y=some LT->(∀r,LT.1 = .ok r-> ∃d,d6 LT.2 r=some d)->Inv y KK Z s.heap Y->
 wpAny (model prog w) A m (n7 y (aY x) KK Z s LT) (aV y (aY x) KK Z s LT) s
theorem dw{m:Sem Value}{mo:bF Rv}{k:Rv->Fm->bF β}{LT:VW β×Fm}{Q:VR}(hk:aT mo k=some LT)(S:Step y bv' KK Z s af au s₁)(hb:∀i∈bv,i∈bv')
  (H:∀o,mo=some o->wpAny (model prog w) A m (gL y bv af au s₁ o) (aV y bv af au s₁ o) s₁)
  (K:∀r av ao aK aC v,mo=some (.ok r,av)->k r av=some LT->Inv y ao aK aC.heap av->Step y bv af au s₁ ao aK aC->Step y bv' KK Z s ao aK aC->eD y ao aK s₁.heap aC.heap r v->Q v aC):
  wpAny (model prog w) A m Q (aV y bv' KK Z s LT) s₁:=by
 rcases aN hk with⟨e,f,hm,rfl⟩|⟨r,f,hm,hk⟩
 .refine YS (H _ hm) (λv s' p=>?_) λaa ai x=>x.up hb S;obtain⟨r,_,_,q,_⟩:=p;exact mI q
 .refine YS (H _ hm) (λv s' p=>?_) λaa ai x=>x.elim;refine ak λG g=>?_;obtain⟨r',ag,Z',q,I,S',R⟩:=p;obtain rfl:=jk q;exact g<|K r f ag Z' s' v hm hk I S' (S.trans<|S'.sub hb) R
theorem yH{m:Sem Bool}{mo:bF Rv}{k:Rv->Fm->bF β}{LT:VW β×Fm}{Q:Bool->Shared->Prop}(hk:aT mo k=some LT)(S:Step y bv' KK Z s af au s₁)(hb:∀i∈bv,i∈bv')
  (hd:∀r av,k r av=some LT-> ∃d,d6 av r=some d)
  (H:∀o,mo=some o->(∀r,o.1 = .ok r-> ∃d,d6 o.2 r=some d)->wpAny (model prog w) A m (n7 y bv af au s₁ o) (aV y bv af au s₁ o) s₁)
  (K:∀r d av ao aK aC,k r av=some LT->d6 av r=some d->Inv y ao aK aC.heap av->Step y bv af au s₁ ao aK aC->Step y bv' KK Z s ao aK aC->Q (tD d) aC):
  wpAny (model prog w) A m Q (aV y bv' KK Z s LT) s₁:=by
 refine ak λG g=>?_;rcases aN hk with⟨e,f,hm,rfl⟩|⟨r,f,hm,hk⟩
 .refine g ?_;refine YS (H _ hm λr q=>by exact mI q) (λv s' p=>?_) λaa ai x=>x.up hb S;obtain⟨r,_,_,_,q,_⟩:=p;exact mI q
 .refine g ?_;refine YS (H _ hm λr' q=>by refine O (jk q).symm ?_;exact hd r f hk) (λv s' p=>?_) λaa ai x=>x.elim;obtain⟨r',d,ag,Z',q,e,rfl,I,S'⟩:=p;obtain rfl:=jk q;exact K r d f ag Z' s' hk e I S'<|S.trans<|S'.sub hb
theorem aP(S:Step y bv KK Z s af au s₁):Step y bv KK Z s af au {s₁ with toks:=tk}:=
 S.trans (Step.grow (tk:=tk) (λaa ai e=>e))
theorem ST.of{x:Ex}(H:SE A c y (eval e VN) x)(he:isTrue e VN (eval e VN)=(do let v <- eval e VN;standAt e.pos;holding [v] (truthy v))):ST A c y (isTrue e VN<|eval e VN) x:=by intro KK Z s Y LT h hd I;refine isTrue_plain (YS (H KK Z s Y LT h I) (λv s' p=>?_) λaa ai x=>x) he;obtain⟨r,ag,Z',e,I',S,R⟩:=p;exact aB (hd r e) λd hr=>(lM (R.dat I' hr) λtk=>⟨r,d,ag,Z',e,hr,rfl,I',aP S⟩)
theorem yJ{k:Const}{d:D}(hk:cP k d):SE A c y (eval (.Constant k kk pos) VN) (.lit d):=by intro KK Z s Y LT h I;refine O (aE h).symm ?_;cases hk with
 |none=>exact wpAny_Constant_none<|.val I .refl .none
 |bool b=>exact wpAny_Constant_bool<|.val I .refl<|.bool b
 |int i=>exact wpAny_Constant_int<|.val (s':= {s with toks:=s.toks+1}) I (aP .refl)<|.int i _
 |str x hx hz=>exact wpAny_Constant_str<|.val (s':= {s with toks:=s.toks+1}) I (aP .refl)<|.str x _ hx hz
theorem Mz{k:Nat}(R:Rn A c n)(en:aJ A V VN y)(hx:V.isG x)(hk:tb.gl[k]?=some x):SE A c y (eval (.Name x pos) VN) (.gl k):=by intro KK Z s Y LT h I;refine aB (ba h) λd z1=>?_;exact O (aE z1.2).symm<|aB (R.gd.gl k x d hk z1.1) λv q=>(eP R.gd en I hx q.1<|.val I .refl<|q.2 _ _ I.base I.zb)
theorem qd{s:Option Slot}{Y:Fm}{o:VW Rv×Fm}(h:CW s Y i=some o):(∃d,s=some (.fz d)/\o=(.ok<|.fz d,Y))\/ ∃d,s=some (.KK d)/\o=(.ok<|.fz d,Y.set i<|.fz d):=by
 rcases s with _|_|d|d|_
 .exact am h
 .exact am h
 .exact .inl ⟨d,rfl,(aE h).symm⟩
 .exact .inr ⟨d,rfl,(aE h).symm⟩
 .exact am h
theorem Aa{Y:Fm}(h:ta Y (.var i)=true):∃sl,Y[i]?=some sl/\sl≠ .no:=by
 have h:(match Y[i]? with
  |some sl=>sl.live
  |none=>false)=true:=h
 cases q:Y[i]? with
 |none=>rw[q]at h;exact tf h
 |some sl=>exact⟨sl,rfl,λe=>by rw[q,e]at h;exact tf h⟩
theorem jU(en:aJ A V VN y)(hx:V.isV x i):SE A c y (eval (.Name x pos) VN) (.var i):=by
 intro KK Z s Y LT h I;rcases qd h with⟨d,hd,rfl⟩|⟨d,hd,rfl⟩
 .obtain⟨l,v,hl,hr,q⟩:=I.at' i _ hd (λn=>Slot.noConfusion n);exact hV en hx hl hr<|.val I .refl q
 .obtain⟨l,a,hl,hr,oa,q,I'⟩:=I.freeze hd;exact hV en hx hl hr<|.val I' (.freeze oa) q
theorem My(en:aJ A V VN y)(hx:V.isV x i):SE A c y (eval (.Name x pos) VN) (.pl<|.var i):=by intro KK Z s Y LT h I;have z:=AE h;refine aB (Aa z.1) λsl e=>?_;refine O (aE z.2).symm ?_;obtain⟨l,v,hl,hr,q⟩:=I.at' i _ e.1 e.2;exact hV en hx hl hr ⟨_,KK,Z,rfl,I,.refl,l,hl,hr⟩
theorem DC{a:Str}{p:Pos}(R:Rn A c n)(en:aJ A V VN y)(hx:V.isA x a i):SE A c y (eval (.Attribute (.Name x p) a pos) VN) (.var i):=by
 intro KK Z s Y LT h I;rcases qd h with⟨d,hd,rfl⟩|⟨d,hd,rfl⟩
 .obtain⟨l,v,hl,hr,q⟩:=I.at' i _ hd (λn=>Slot.noConfusion n);exact eW R.gd en I hx hl hr (bE.hand q) λtk=>.val (s':= {s with toks:=tk}) I (aP .refl) q
 .obtain⟨l,a,hl,hr,oa,q,I'⟩:=I.freeze hd;exact eW R.gd en I hx hl hr (bE.hand q) λtk=>.val (s':= {s with toks:=tk}) I' (aP<|.freeze oa) q
theorem IP{a:Str}{p:Pos}(R:Rn A c n)(en:aJ A V VN y)(hx:V.isA x a i):SE A c y (eval (.Attribute (.Name x p) a pos) VN) (.pl<|.var i):=by intro KK Z s Y LT h I;have z:=AE h;refine aB (Aa z.1) λsl e=>?_;refine O (aE z.2).symm ?_;obtain⟨l,v,hl,hr,q⟩:=I.at' i _ e.1 e.2;exact eW R.gd en I hx hl hr (q.hand e.2) λtk=>⟨_,KK,Z,rfl,I,aP .refl,l,hl,hr⟩
theorem Rn.cl(R:Rn A c n):A.units+66<cLine:=by have:=R.un;exact(L1 [A.5,n] (.p 1<|.p 66 .x) (.c 9900) (.p 4<|.a .x<|.m 8 .y) (.c 4000) rfl this)
theorem di{a b:VS}:∀i∈a,i∈a++b:=λi h=>Zx _ h
theorem eI{a b:VS}:∀i∈b,i∈a++b:=λi h=>Zw _ h
theorem IG{o:Cr}(Ha:SE A c y (eval ea VN) xa)(Hb:SE A c y (eval eb VN) xb)(ap:Apart xa (aY xb)):SE A c y (eval (.BinOp ea (zg o) eb pos) VN) (.op2 o xa xb):=by intro KK Z s Y LT h I;refine wpAny_BinOp<|dw (bv:=aY xa) (bv':=aY xa++aY xb) h .refl di (λo e=>Ha KK Z s Y o e I) λr aj af au s₁ v bp h ax aW S R=>?_;refine dw (bv:=aY xb) h S eI (λo e=>Hb af au s₁ aj o e ax) λr' av ao aK aC v' j7 h aF aO S R'=>?_;refine aB (ba h) λd z1=>aB (ba z1.2) λe z2=>?_;obtain⟨q,hq,rfl⟩:=hH z2.2;exact YS (E:=aV y (aY xa++aY xb) KK Z s (.ok q,av)) (Jc (by cases o<;>rfl) hq ((aO.rv ax (dG bp ap) R).dat aF z1.1)<|R'.dat aF z2.1) (λv s' p=>p.post aF S) λaa ai x=>x
theorem IK(Ha:SE A c y (eval ea VN) xa):SE A c y (eval (.UnaryOp .USub ea pos) VN) (.neg xa):=by
 intro KK Z s Y LT h I;refine UnaryOp_<|dw (bv:=aY xa) h .refl (λaa h=>h) (λo e=>Ha KK Z s Y o e I) λr aj af au s₁ v bp h ax aW S R=>?_;refine aB (ba h) λd z3=>?_;refine aB (zk z3.2) λe hq=>?_;refine O hq.2 ?_;have cQ:d6 aj r=some d:=by cases r<;>first|exact z3.1|exact am z3.1
 exact YS (I9 hq.1<|R.dat ax cQ) (λv s' p=>p.post ax S) λaa ai x=>x
theorem II(Ha:SE A c y (eval ea VN) xa):SE A c y (eval (.UnaryOp .Not ea pos) VN) (.not xa):=by intro KK Z s Y LT h I;refine UnaryOp_<|dw (bv:=aY xa) h .refl (λaa h=>h) (λo e=>Ha KK Z s Y o e I) λr aj af au s₁ v bp h ax aW S R=>?_;refine aB (ba h) λd z4=>?_;exact O (aE z4.2).symm<|YS (I8<|R.dat ax z4.1) (λv s' p=>p.post ax S) λaa ai x=>x
theorem Ib(Ha:ST A c y (isTrue ea VN<|eval ea VN) xa):ST A c y (isTrue (.UnaryOp .Not ea pos) VN ki) (.not xa):=by
 intro KK Z s Y LT h _ I;refine isTrue_not<|yH (bv:=aY xa) h .refl (λaa h=>h) (λr av h=>?_) (λo e hd=>Ha KK Z s Y o e hd I) λr d aj af au s₁ h hd ax aW S=>?_
 .refine aB (ba h) λd z5=>?_;exact⟨_,z5.1⟩
 .rw[hd]at h;exact O (aE h).symm<|⟨_,_,af,au,rfl,rfl,rfl,ax,S⟩
theorem IM{o:Cm}(R:Rn A c n)(Ha:SE A c y (eval ea VN) xa)(Hb:SE A c y (eval eb VN) xb)(ap:Apart xa (aY xb))(hm:behindInMarks (fk o) eb=false):SE A c y (eval (.Compare ea [fk o] [eb] pos) VN) (.cmp o xa xb):=by intro KK Z s Y LT h I;refine wpAny_Compare1 (dw (bv:=aY xa) (bv':=aY xa++aY xb) h .refl di (λo e=>Ha KK Z s Y o e I) λr aj af au s₁ v bp h ax aW S R1=>?_) hm;refine dw (bv:=aY xb) h S eI (λo e=>Hb af au s₁ aj o e ax) λr' av ao aK aC v' j7 h aF aO S R'=>?_;refine aB (ba h) λd z6=>aB (ba z6.2) λe z7=>?_;refine aB (zk z7.2) λb hq=>?_;refine O hq.2 ?_;have hb:=hq.1;exact YS (jZ hb ((aO.rv ax (dG bp ap) R1).dat aF z6.1) (R'.dat aF z7.1) R.cl) (λv s' p=>p.post aF S) λaa ai x=>x
theorem Op.boolV{Z:VQ}{s s':Shared}{v:Value}(p:Op Z s (.fz<|.bool b) v s'):v = .bool b/\ ∃h' tk,s'={s with heap:=h',toks:=tk}/\ ∀a o,s.heap.get? a=some o->h'.get? a=some o:=by obtain⟨h',tk,rfl,k,q⟩:=p;cases q with
 |old R=>exact⟨cU.bool<|.inl R,h',tk,rfl,k⟩
 |new e e' R=>exact⟨cU.bool<|.inl R,h',tk,rfl,k⟩
theorem Ic{o:Cm}(R:Rn A c n)(Ha:SE A c y (eval ea VN) xa)(Hb:SE A c y (eval eb VN) xb)(ap:Apart xa (aY xb))(hm:behindInMarks (fk o) eb=false):ST A c y (isTrue (.Compare ea [fk o] [eb] pos) VN ki) (.cmp o xa xb):=by intro KK Z s Y LT h _ I;refine wpAny_isTrue_Compare1 (dw (bv:=aY xa) (bv':=aY xa++aY xb) h .refl di (λo e=>Ha KK Z s Y o e I) λr aj af au s₁ v bp h ax aW S R1=>?_) hm;refine dw (bv:=aY xb) h S eI (λo e=>Hb af au s₁ aj o e ax) λr' av ao aK aC v' j7 h aF aO S R'=>?_;refine aB (ba h) λd z8=>aB (ba z8.2) λe z9=>?_;have h:=z9.2;refine aB (zk h) λb hq=>?_;refine O hq.2 ?_;have hb:=hq.1;refine YS (jZ hb ((aO.rv ax (dG bp ap) R1).dat aF z8.1) (R'.dat aF z9.1) R.cl) (λv s' p=>?_) λaa ai x=>x;obtain⟨rfl,h',tk,rfl,k⟩:=p.boolV;exact wpAny_truthy_bool ⟨_,_,ao,aK,rfl,rfl,rfl,aF.grow k,S.trans<|.grow k⟩
theorem lV{o p:CmpOp}{b:Expr}(h:behindInMarks p e=false):lastMarks [o,p] [b,e]=false:=by simpa [lastMarks] using h
theorem dN{Y:Fm}{r:Rv}{d:D}(h:c5 r=some d):d6 Y r=some d:=by cases r<;>first|exact h|exact am h
theorem d5{r:Rv}{d:D}{bv:VS}(h:c5 r=some d):∀i∈gq r,i∉bv:=by refine O (nh h) ?_;intro i hi;cases hi
theorem DA{ec:Expr}{o p:Cm}{xc:Ex}(R:Rn A c n)(Ha:SE A c y (eval ea VN) xa)(Hb:SE A c y (eval eb VN) xb)(Hc:SE A c y (eval ec VN) xc)(hm:behindInMarks (fk p) ec=false):
  SE A c y (eval (.Compare ea [fk o,fk p] [eb,ec] pos) VN) (.cmp2 o p xa xb xc):=by
 intro KK Z s Y LT h I;refine Compare_chain (dw (bv:=aY xa) (bv':=aY xa++aY xb++aY xc) h .refl (λi h=>di i<|di i h) (λo e=>Ha KK Z s Y o e I) λr aj af au s₁ v bp h ax aW S R1=>?_)<|lV hm;refine chain_link<|dw (bv:=aY xb) h S (λi h=>di i<|eI i h) (λo e=>Hb af au s₁ aj o e ax) λr' av ao aK aC v' j7 h aF aO S R'=>?_;refine aB (ba h) λd P9=>aB (ba P9.2) λe Me=>?_;have h:=Me.2;refine aB (ba h) λt SK=>?_;have h:=SK.2;refine YS (jZ SK.1 ((aO.rv ax (d5 P9.1) R1).dat aF<|dN P9.1) (R'.dat aF<|dN Me.1) R.cl) (λv s' p=>?_) λaa ai x=>x;obtain⟨rfl,h',tk,rfl,k⟩:=p.boolV;refine wpAny_truthy_bool ?_;cases t with
 |false=>rw[YY (by simp)]at h ⊢;exact O (aE h).symm<|.val (aF.grow k) (S.trans<|.grow k)<|.bool _
 |true=>rw[YX rfl]at h ⊢;have iT:Step y (aY xb) ao aK aC ao aK {aC with heap:=h',toks:=tk}:=.grow k;refine chain_last<|dw (bv:=aY xc) h (S.trans<|.grow k) eI (λo e=>Hc ao aK _ av o e<|aF.grow k) λr3 kA jX gH jp v3 Od h mB Ch S R3=>?_;refine aB (ba h) λd3 SJ=>?_;refine aB (zk SJ.2) λb hq=>?_;exact O hq.2<|YS (jZ hq.1 ((Ch.rv (aF.grow k) (d5 Me.1)<|iT.rv aF (d5 Me.1) R').dat mB<|dN Me.1) (R3.dat mB<|dN SJ.1) R.cl) (λv s' p=>p.post mB S) λaa ai x=>x
theorem Dd{ec:Expr}{o p:Cm}{xc:Ex}(R:Rn A c n)(Ha:SE A c y (eval ea VN) xa)(Hb:SE A c y (eval eb VN) xb)(Hc:SE A c y (eval ec VN) xc)(hm:behindInMarks (fk p) ec=false):
  ST A c y (isTrue (.Compare ea [fk o,fk p] [eb,ec] pos) VN ki) (.cmp2 o p xa xb xc):=by
 intro KK Z s Y LT h _ I;refine isTrue_chain (dw (bv:=aY xa) (bv':=aY xa++aY xb++aY xc) h .refl (λi h=>di i<|di i h) (λo e=>Ha KK Z s Y o e I) λr aj af au s₁ v bp h ax aW S R1=>?_)<|lV hm;refine test_link<|dw (bv:=aY xb) h S (λi h=>di i<|eI i h) (λo e=>Hb af au s₁ aj o e ax) λr' av ao aK aC v' j7 h aF aO S R'=>?_;refine aB (ba h) λd P8=>aB (ba P8.2) λe Md=>?_;have h:=Md.2;refine aB (ba h) λt SH=>?_;have h:=SH.2;refine YS (jZ SH.1 ((aO.rv ax (d5 P8.1) R1).dat aF<|dN P8.1) (R'.dat aF<|dN Md.1) R.cl) (λv s' p=>?_) λaa ai x=>x;obtain⟨rfl,h',tk,rfl,k⟩:=p.boolV;refine wpAny_truthy_bool ?_;cases t with
 |false=>rw[YY (by simp)]at h ⊢;exact O (aE h).symm<|⟨_,_,ao,aK,rfl,rfl,rfl,aF.grow k,S.trans<|.grow k⟩
 |true=>rw[YX rfl]at h ⊢;have iT:Step y (aY xb) ao aK aC ao aK {aC with heap:=h',toks:=tk}:=.grow k;refine test_last<|dw (bv:=aY xc) h (S.trans<|.grow k) eI (λo e=>Hc ao aK _ av o e<|aF.grow k) λr3 kA jX gH jp v3 Od h mB Ch S R3=>?_;refine aB (ba h) λd3 SG=>?_;have h:=SG.2;refine aB (zk h) λb hq=>?_;refine O hq.2 ?_;refine YS (jZ hq.1 ((Ch.rv (aF.grow k) (d5 Md.1)<|iT.rv aF (d5 Md.1) R').dat mB<|dN Md.1) (R3.dat mB<|dN SG.1) R.cl) (λv s' p=>?_) λaa ai x=>x;obtain⟨rfl,h',tk,rfl,k⟩:=p.boolV;exact wpAny_truthy_bool ⟨_,_,jX,gH,rfl,rfl,rfl,mB.grow k,S.trans<|.grow k⟩
theorem yL(Ha:SE A c y (eval ea VN) xa)(Hb:SE A c y (eval eb VN) xb)(ap:Apart xa (aY xb))(hs:∀o i,subscripted eb false o i=operate [o,i] (getItem o i)):SE A c y (eval (.Subscript ea eb pos) VN) (.idx xa xb):=by intro KK Z s Y LT h I;refine Subscript_<|dw (bv:=aY xa) (bv':=aY xa++aY xb) h .refl di (λo e=>Ha KK Z s Y o e I) λr aj af au s₁ v bp h ax aW S R=>?_;refine dw (bv:=aY xb) h S eI (λo e=>Hb af au s₁ aj o e ax) λr' av ao aK aC v' j7 h aF aO S R'=>?_;refine aB (ba h) λd SF=>aB (ba SF.2) λe SD=>?_;refine aB (zk SD.2) λb hq=>?_;exact O hq.2<|er (te (A:=A) (E:=aV y (aY xa++aY xb) KK Z s ((.ok (.fz b):VW Rv),av)) hq.1 ((aO.rv ax (dG bp ap) R).dat aF SF.1)<|R'.dat aF<|dN SD.1) λT id Q=>(tail_any Q.1 Q.2.1 (YS Q.2.2 (λv s' p=>p.post aF S) λaa ai x=>x)<|hs _ _)
theorem IF{lo hi:Option Expr}{xl xh:Ex}{p:Pos}(Ha:SE A c y (eval ea VN) xa)(Hl:SE A c y (evalPart lo VN) xl)(Hh:SE A c y (evalPart hi VN) xh)(ap:Apart xa (aY xl++aY xh)):
  SE A c y (eval (.Subscript ea (.Slice lo hi none p) pos) VN) (.slc xa xl xh):=by
 intro KK Z s Y LT h I;refine Subscript_<|dw (bv:=aY xa) (bv':=aY xa++aY xl++aY xh) h .refl (λi h=>di i<|di i h) (λo e=>Ha KK Z s Y o e I) λr aj af au s₁ v bp h ax aW S R=>?_;refine wpAny_Slice<|dw (bv:=aY xl) h S (λi h=>di i<|eI i h) (λo e=>Hl af au s₁ aj o e ax) λr2 av ao aK aC v2 j7 h aF aO S R'=>?_;refine dw (bv:=aY xh) h S eI (λo e=>Hh ao aK aC av o e aF) λr3 kA jX gH jp v3 Od h fW iT S R3=>?_;refine wpAny_of_eq (evalPart_none _) ?_;refine ak λG g=>?_;refine g ?_;refine aB (ba h) λd SC=>aB (ba SC.2) λl P7=>aB (ba P7.2) λu Sv=>?_;obtain⟨q,hq,rfl⟩:=hH Sv.2;have Rl:=iT.rv aF (d5 P7.1) R';exact er (y9 (A:=A) (E:=aV y (aY xa++aY xl++aY xh) KK Z s ((.ok q:VW Rv),kA)) hq ((iT.rv aF (λi hi hb=>dG bp ap i hi<|eI i hb)<|aO.rv ax (λi hi hb=>dG bp ap i hi<|di i hb) R).dat fW SC.1) (Rl.dat fW<|dN P7.1)<|R3.dat fW<|dN Sv.1) λT id Q=>(tail_any Q.1 Q.2.1 (YS Q.2.2 (λv s' p=>p.post fW S) λaa ai x=>x) rfl)
end
def F2(P:Expr->Ex->Prop):VV->List Ex->Prop
 |[],[]=>True
 |e::es,x::M=>P e x/\Apart x (bu M)/\F2 P es M
 |_,_=>False
section
variable {A:Around}{c:Cfg}{n:Nat}{VN:Env}{V:Sc}{y:Lay}
 {bv bv':VS} {KK af:VP} {Z au:VQ} {s s₁:Shared} {Y aj:Fm}
theorem gL.from{v:Value}(hb:∀i∈bv,i∈bv')(S:Step y bv' KK Z s af au s₁)(p:gL y bv af au s₁ LT v s'):gL y bv' KK Z s LT v s':=by obtain⟨r,ag,Z',e,I,S',R⟩:=p;exact⟨r,ag,Z',e,I,S.trans<|S'.sub hb,R.since S.old⟩
theorem n7.from{v:Bool}(hb:∀i∈bv,i∈bv')(S:Step y bv' KK Z s af au s₁)(p:n7 y bv af au s₁ LT v s'):n7 y bv' KK Z s LT v s':=by obtain⟨r,d,ag,Z',e,e',ev,I,S'⟩:=p;exact⟨r,d,ag,Z',e,e',ev,I,S.trans<|S'.sub hb⟩
theorem xZ{j:Bool}{bp j7:Expr}{rest:VV}{s:Shared}{Q:VR}
  (h:wpAny (model prog w) A (eval bp VN) (λv s₁=>wpAny (model prog w) A (truthy v) (λb aC=>if b=j then wpAny (model prog w) A (eval (.BoolOp (B4 j) (j7::rest) pos) VN) Q E aC else Q v aC) E s₁) E s):
  wpAny (model prog w) A (eval (.BoolOp (B4 j) (bp::j7::rest) pos) VN) Q E s:=by
 cases j with
 |true=>exact BoolOp_and h
 |false=>exact BoolOp_or<|YS h (λv s₁ h=>YS h (λb aC h=>by cases b<;>exact h) λaa ai x=>x) λaa ai x=>x
theorem nG{j:Bool}{x:Expr}{rest:VV}{s:Shared}{Q:Bool->Shared->Prop}
  (h:wpAny (model prog w) A (isTrue x VN<|eval x VN) (λb s'=>if b=j then wpAny (model prog w) A (isTrue (.BoolOp (B4 j) rest pos) VN ki) Q E s' else Q b s') E s):
  wpAny (model prog w) A (isTrue (.BoolOp (B4 j) (x::rest) pos) VN ki) Q E s:=by
 cases j with
 |true=>exact isTrue_and<|YS h (λb aC h=>by cases b<;>exact h) λaa ai x=>x
 |false=>exact isTrue_or<|YS h (λb aC h=>by cases b<;>exact h) λaa ai x=>x
theorem tM{j:Bool}{s:Shared}{Q:Bool->Shared->Prop}(h:Q b s):if b=j then wpAny (model prog w) A (isTrue (.BoolOp (B4 j) [] pos) VN ki) Q E s else Q b s:=by cases j<;>cases b<;>first|exact h|exact isTrue_and_nil h|exact isTrue_or_nil h
set_option tactic.hygienic true in
theorem MB{j:Bool} :∀{es:VV}{M:List Ex},F2 (λe x=>SE A c y (eval e VN) x) es M->SE A c y (eval (.BoolOp (B4 j) es pos) VN) (.bo j M):=by intro x1 x2 F;induction x1 generalizing x2 with
 |nil=>cases x2 with
  |nil=>intro KK Z s Y LT h I;exact am h
  |cons x4 x5=>exact F.elim
 |cons e x3 ih=>cases x3 with
  |nil=>cases x2 with
   |nil=>exact F.elim
   |cons x x6=>cases x6 with
    |nil=>intro KK Z s Y LT h I;rw[vA,vB]at h;refine BoolOp_one<|dw (bv:=aY x) (bv':=aY x++[]) h .refl di (λo e=>F.1 KK Z s Y o e I) λr aj af au s₁ v bp h ax aW S R=>?_;exact aB (ba h) λaa z=>O (aE z.2).symm<|⟨_,af,au,rfl,ax,S,R⟩
    |cons x7 x8=>exact F.2.2.elim
  |cons e' es=>cases x2 with
   |nil=>exact F.elim
   |cons x x9=>cases x9 with
    |nil=>exact F.2.2.elim
    |cons x' M=>
      intro KK Z s Y LT h I;rw[vA,rI]at h;refine xZ<|dw (bv:=aY x) (bv':=aY x++bu (x'::M)) h .refl di (λo e=>F.1 KK Z s Y o e I) λr aj af au s₁ v bp h ax aW S R=>?_;refine aB (ba h) λd z4=>?_;have h:=z4.2;refine lM (R.dat ax<|dN z4.1) λtk=>?_;split at h
      .rename_i ht;exact O (YX ht)<|YS (ih F.2.2 af au {s₁ with toks:=tk} aj LT h ax) (λv s' p=>p.from eI<|aP (tk:=tk) S) λe s' p=>p.sub eI<|aP (tk:=tk) S
      .rename_i ht;exact O (YY ht)<|O (aE h).symm<|⟨_,af,au,rfl,ax,aP S,R⟩
set_option tactic.hygienic true in
theorem Ms{j:Bool} :∀{es:VV}{M:List Ex},F2 (λe x=>ST A c y (isTrue e VN<|eval e VN) x) es M->ST A c y (isTrue (.BoolOp (B4 j) es pos) VN ki) (.bo j M):=by intro x1 x2 F;induction x1 generalizing x2 with
 |nil=>cases x2 with
  |nil=>intro KK Z s Y LT h _ I;exact am h
  |cons x4 x5=>exact F.elim
 |cons e x3 ih=>cases x3 with
  |nil=>cases x2 with
   |nil=>exact F.elim
   |cons x x6=>cases x6 with
    |nil=>
      intro KK Z s Y LT h _ I;rw[vA,vB]at h;refine nG<|yH (bv:=aY x) (bv':=aY x++[]) h .refl di (λr av h=>?_) (λo e hd=>F.1 KK Z s Y o e hd I) λr d aj af au s₁ h hd ax aW S=>?_
      .exact aB (ba h) λaa z=>⟨_,dN z.1⟩
      .exact aB (ba h) λaa z=>O (aE z.2).symm<|tM ⟨_,_,af,au,rfl,hd,rfl,ax,S⟩
    |cons x7 x8=>exact F.2.2.elim
  |cons e' es=>cases x2 with
   |nil=>exact F.elim
   |cons x x9=>cases x9 with
    |nil=>exact F.2.2.elim
    |cons x' M=>
      intro KK Z s Y LT h AS I;rw[vA,rI]at h;refine nG<|yH (bv:=aY x) (bv':=aY x++bu (x'::M)) h .refl di (λr av h=>?_) (λo e hd=>F.1 KK Z s Y o e hd I) λr d aj af au s₁ h hd ax aW S=>?_
      .exact aB (ba h) λaa z=>⟨_,dN z.1⟩
      .refine aB (ba h) λd' z5=>?_;have h:=z5.2;have J5:=dN (Y:=aj) z5.1;rw[hd]at J5;obtain rfl:=aE J5;split at h
       .rename_i ht;exact O (YX ht)<|YS (ih F.2.2 af au s₁ aj LT h AS ax) (λv s' p=>p.from eI S) λe s' p=>p.sub eI S
       .rename_i ht;exact O (YY ht)<|O (aE h).symm<|⟨_,_,af,au,rfl,hd,rfl,ax,S⟩
inductive pR(y:Lay)(bv:VS)(KK:VP)(Z:VQ)(s:Shared)(LT:VW (List Rv)×Fm)(vs:VU)(s':Shared):Prop
 |mk (rs:List Rv) (ag:VP) (Z':VQ):LT.1 = .ok rs->Inv y ag Z' s'.heap LT.2->Step y bv KK Z s ag Z' s'->ey y ag Z' s.heap s'.heap rs vs->pR y bv KK Z s LT vs s'
theorem eD.frz{r:Rv}{v:Value}(I:Inv y ag Z' s'.heap Y)(S:Step y bv KK Z s ag Z' s')(q:eD y ag Z' s.heap s'.heap r v):
  ∃n6,Inv y ag n6 s'.heap Y/\Step y bv KK Z s ag n6 s'/\eD y ag n6 s.heap s'.heap (frz r) v/\ ∀a,Z' a->n6 a:=by
 cases r with
 |fz d=>exact⟨Z',I,S,q,λaa z=>z⟩
 |KK d=>obtain⟨a,rfl,n0,nw,nf,nz,w⟩:=q;obtain⟨o,ho⟩:=w.live;exact⟨_,I.addZ nw nf ho,S.addZ n0,w.rep (λaa z=>.inl z)<|.inr rfl,λaa z=>.inl z⟩
 |pl p=>exact⟨Z',I,S,q,λaa z=>z⟩
theorem lK(r:Rv):gq (frz r)=gq r:=by cases r<;>rfl
theorem ey.since{h₁:Heap}(k:∀a,h₁.get? a=none->h₀.get? a=none):∀{rs:List Rv}{vs:VU},ey y KK Z h₁ h rs vs->ey y KK Z h₀ h rs vs:=by intro x1 x2 q;induction x1 generalizing x2 with
 |nil=>cases x2 with
  |nil=>exact trivial
  |cons x5 x6=>exact q.elim
 |cons x3 x4 ih=>cases x2 with
  |nil=>exact q.elim
  |cons x7 x8=>exact⟨q.1.since k,ih q.2⟩
theorem ey.repAll:∀{rs:List Rv}{vs:VU}{X:VX},ey y KK Z h₀ h rs vs->eC rs=some X->aq h Z vs X:=by intro rs vs X q e;induction rs generalizing vs X with
 |nil=>cases vs with
  |nil=>exact O (aE e).symm .nil
  |cons x1 x2=>exact q.elim
 |cons r rs ih=>cases vs with
  |nil=>exact q.elim
  |cons v vs=>refine er (IR e) λd iH z=>?_;refine O z.2.2<|.cons ?_<|ih q.2 z.2.1;have:=q.1;cases r with
    |fz d'=>exact O (aE z.1).symm this
    |KK d'=>exact O (aE z.1).symm this
    |pl p=>exact am z.1
theorem oo{Y:Fm}{r:Rv}{d:D}(h:d6 Y r=some d):d6 Y (frz r)=some d:=by cases r<;>exact h
theorem qv:∀{es:VV}{M:List Ex},F2 (λe x=>CE V e x/\SE A c y (eval e VN) x) es M-> ∀(KK:VP)(Z:VQ)(s:Shared)(Y:Fm)(LT:VW (List Rv)×Fm),jF c M Y=some LT->Inv y KK Z s.heap Y->
  wpAny (model prog w) A (spliced<|backTo pos<|starEach es VN) (pR y (bu M) KK Z s LT) (aV y (bu M) KK Z s LT) s:=by
 intro es M F;induction es generalizing M with
 |nil=>cases M with
  |nil=>intro KK Z s Y LT h I;exact O (aE h).symm<|spliced_none ⟨[],KK,Z,rfl,I,.refl,trivial⟩
  |cons x1 x2=>exact F.elim
 |cons e es ih=>cases M with
  |nil=>exact F.elim
  |cons x M=>
    intro KK Z s Y LT h I;rw[fg]at h;refine spliced_more (dw (bv:=aY x) (bv':=aY x++bu M) h .refl di (λo e=>F.1.2 KK Z s Y o e I) λr aj af au s₁ v bp h ax aW S R=>?_)<|F.1.1.star VN es;refine ak λG g=>?_;refine aB (R.frz ax S) λaK Q=>?_;have aF:=Q.1;have aO:=Q.2.1;have eK:=Q.2.2.1;have ap:∀i∈gq (frz r),i∉bu M:=by rw[lK];exact dG bp F.2.1
    rcases aN h with⟨e',f,hm,rfl⟩|⟨rs,f,hm,h⟩
    .refine g ?_;refine YS (ih F.2.2 af aK s₁ aj _ hm aF) (λvs s' p=>?_) λe s' p=>p.up eI aO;obtain⟨_,_,_,q,_⟩:=p;exact mI q
    .refine g ?_;refine YS (ih F.2.2 af aK s₁ aj _ hm aF) (λvs s' p=>?_) λe s' p=>p.elim;obtain⟨LQ,ag,Z',q,I',S',R'⟩:=p;obtain rfl:=jk q;exact O (aE h).symm<|⟨r::rs,ag,Z',rfl,I',aO.trans<|S'.sub eI,S'.rv aF ap eK,R'.since aO.old⟩
theorem km{m:Sem VU}{mo:bF (List Rv)}{k:List Rv->Fm->bF β}{LT:VW β×Fm}{Q:VU->Shared->Prop}(hk:aT mo k=some LT)(S:Step y bv' KK Z s af au s₁)(hb:∀i∈bv,i∈bv')
  (H:∀o,mo=some o->wpAny (model prog w) A m (pR y bv af au s₁ o) (aV y bv af au s₁ o) s₁)
  (K:∀rs av ao aK aC vs,mo=some (.ok rs,av)->k rs av=some LT->Inv y ao aK aC.heap av->Step y bv af au s₁ ao aK aC->Step y bv' KK Z s ao aK aC->ey y ao aK s₁.heap aC.heap rs vs->Q vs aC):
  wpAny (model prog w) A m Q (aV y bv' KK Z s LT) s₁:=by
 rcases aN hk with⟨e,f,hm,rfl⟩|⟨r,f,hm,hk⟩
 .refine YS (H _ hm) (λv s' p=>?_) λaa ai x=>x.up hb S;obtain⟨r,_,_,q,_⟩:=p;exact mI q
 .refine YS (H _ hm) (λv s' p=>?_) λaa ai x=>x.elim;refine ak λG g=>?_;obtain⟨r',ag,Z',q,I,S',R⟩:=p;obtain rfl:=jk q;exact g<|K r f ag Z' s' v hm hk I S' (S.trans<|S'.sub hb) R
theorem jE:∀{M:List Ex}{Y dU:Fm}{rs:List Rv},jF c M Y=some (.ok rs,dU)->rs.length=M.length:=by intro M x1 x2 x3 h;induction M generalizing x1 x2 x3 with
 |nil=>obtain⟨rfl,rfl⟩:=wB h;rfl
 |cons x M ih=>
  rw[fg]at h;rcases aN h with⟨_,_,_,q⟩|⟨a,f,_,q⟩
  .cases q
  .rcases aN q with⟨_,_,_,q⟩|⟨a',f',h',q⟩
   .cases q
   .obtain⟨rfl,rfl⟩:=wB q;exact O ZH<|O ZH<|O (ih h') rfl
theorem IB{k:Nat}(F:F2 (λe x=>CE V e x/\SE A c y (eval e VN) x) es M)(hl:M.length<=1000):SE A c y (eval (.Tuple es k pos) VN) (.tup M):=by
 intro KK Z s Y LT h I;refine Tuple_<|km (bv:=bu M) h .refl (λaa h=>h) (λo e=>qv F KK Z s Y o e I) λrs aj af au s₁ vs bp h ax aW S R=>?_;refine aB (zk h) λX hq=>?_;refine O hq.2 ?_;have hz:vs.length<=Sz:=by exact O R.length.symm<|O (jE bp)<|Zg hl (by decide)
 exact wpAny_newObj_type ((Op.newT (R.repAll hq.1) hz).post ax S) (by show vs.toArray.size<=sizeLine;refine O Zo<|O bW.symm ?_;exact hz)
theorem Dw(F:F2 (λe x=>CE V e x/\SE A c y (eval e VN) x) es M)(hl:M.length<=1000):SE A c y (eval (.List es pos) VN) (.list M):=by
 intro KK Z s Y LT h I;refine List_<|km (bv:=bu M) h .refl (λaa h=>h) (λo e=>qv F KK Z s Y o e I) λrs aj af au s₁ vs bp h ax aW S R=>?_;refine aB (zk h) λX hq=>?_;refine O hq.2 ?_;have hz:vs.length<=Sz:=by exact O R.length.symm<|O (jE bp)<|Zg hl (by decide)
 exact wpAny_newObj_type ((Op.newL (R.repAll hq.1) hz).post ax S) (by show vs.toArray.size<=sizeLine;refine O Zo<|O bW.symm ?_;exact hz)
end
structure Lv(P fs:VQ)(h h':Heap):Prop where
 keep:∀b o,h.get? b=some o-> ¬P b-> ¬fs b->h'.get? b=some o
 slot:∀b o,fs b-> ¬P b->h.get? b=some o-> ∃sl,h'.get? b=some {o with slots:=sl}
 live:∀b o,h.get? b=some o-> ∃o',h'.get? b=some o'
theorem Lv.trans{P:VQ}{yf:Heap}(x:Lv P fs h h')(z:Lv P fs h' yf):Lv P fs h yf where
 keep:=λb o e p f=>z.keep b o (x.keep b o e p f) p f
 slot:=λb o f p e=>let ⟨_,e'⟩:=x.slot b o f p e;let ⟨sl,KF⟩:=z.slot b _ f p e';⟨sl,KF⟩
 live:=λb o e=>let ⟨o',e'⟩:=x.live b o e;z.live b o' e'
theorem Lv.upd{P:VQ}{T:Addr}{f:Obj->Obj}(p:P T)(e:h.get? T=some o)(q:(f o).isFreed=false):Lv P fs h (h.update T f) where
 keep:=λb o e n aa=>(Z0 h f λq:T=b=>n<|q▸p).trans e
 slot:=λb o aa n e=>⟨o.slots,(Z0 h f λq:T=b=>n<|q▸p).trans e⟩
 live:=λb o' e'=>by
  by_cases z:b=T
  .subst z;exact⟨_,Heap.get?_update_self f e q⟩
  .exact⟨o',(Z0 h f<|Ne.symm z).trans e'⟩
theorem Lv.push{P:VQ}(o:Obj):Lv P fs h (h.push o) where
 keep:=λb o e aa ai=>pK _ b o e
 slot:=λb o aa ai e=>⟨o.slots,pK _ b o e⟩
 live:=λb o e=>⟨o,pK _ b o e⟩
theorem Lv.slots{P:VQ}{S:List Addr}(x:Heap.SlotsOnly S h h')(k:∀b∈S,fs b):Lv P fs h h' where
 keep:=λb o e aa f=>(x.2.1 b λq=>f<|k b q).trans e
 slot:=λb o aa ai e=>x.2.2 b o e
 live:=λb o e=>let ⟨_,e⟩:=x.2.2 b o e;⟨_,e⟩
theorem Lv.refl{P:VQ} :Lv P fs h h:=⟨λaa ai e br eH=>e,λaa o ai br e=>⟨o.slots,e⟩,λaa o e=>⟨o,e⟩⟩
theorem BO(o:Obj)(f:Array Value->Array Value):(Obj.mapFields f o).dict=o.dict:=by obtain⟨c,d,dt,sl⟩:=o;cases dt<;>rfl
def dv(h:Heap)(P:VQ)(a:Addr)(nm:Str):Prop:=
 P a/\ ∃oe vs C m,h.get? a=some oe/\(oe.cls = .ref C/\oe.dict=none)/\oe.data = .fields vs/\B.Ns mainGlobals m/\m nm=some (.ref C)/\
  ∃T oT ts,vs[1]?=some (.ref T)/\T≠a/\h.get? T=some oT/\oT.data = .fields ts/\3<ts.size/\P T
theorem dv.is{P:VQ} :dv h P a nm->i6 h P a nm:=by intro x;obtain⟨p,oe,vs,C,m,h1,h2,h3,h4,h5,h6⟩:=x;exact⟨p,oe,vs,C,m,h1,h2,h3,h4,h5,.inr h6⟩
section
variable {IO:Model}{A:Around}{E:VR}{s:Shared}{VN e0:Env}{d8:List Env}{L a:Addr}{nm:Str}{P:VQ}{Q:Unit->Shared->Prop}
theorem nK{oe:Obj}{vs:Array Value}{C:Addr}{head:Value}{ET:Bool}(LZ:A.frames=some (e0::d8))(JY:e0.frame=VN.frame)(hl:s.heap.FunFrames B (e0::d8))(hf:VN.frame=some L)(he:s.heap.get? a=some oe)(hd:oe.data = .fields vs)(hsz:1<vs.size)
  (hc:oe.cls = .ref C/\oe.dict=none) (hn:B.Ns mainGlobals m) (hm:m nm=some (.ref C)) (pa:P a) (hP:∀b,s.heap.get? b=none->P b)
  (k:∀h',Lv P (λb=>b∈(e0::d8).filterMap (·.frame)) s.heap h'->dv h' P a nm->Q () {s with heap:=h'}):
  wpAny IO A (do let fa <- frameOf VN;let pl <- entryPlaceOf L ET;let b <- EntryCells.newEntry head fa .none (rawInt L) .none pl;setField (.ref a) 1 b) Q E s:=by
 have ha:a∉(e0::d8).filterMap (·.frame):=λq=>by obtain⟨_,o,ho,nr⟩:=hl.mem q;rw[he]at ho;obtain rfl:=aE ho;exact nr vs hd
 refine O (show frameOf VN=frameOf e0 from by unfold frameOf; exact O JY rfl) ?_;refine YV (wpAny_frameOf_fun LZ hl (JY.trans hf) fun h₁ HU=>?_);refine YV (wpAny_entryPlaceOf fun pl NO=>?_);unfold EntryCells.newEntry newFields;refine YV (wpAny_newObj_type ?_ (NO.sizeOk5 _ _ _ _ _));have bp:=(HU.2.1 a ha).trans he;generalize hT:({cls:=.type "traceback",dict:=none,data:=.fields ([head,.ref L,.none,rawInt L,.none] ++ (if pl.isEmpty then replicate 6 Value.none else pl)).toArray} :Obj)=oT;refine wpAny_setField (Z2 (h:=h₁) oT bp) hd hsz ?_;have U7:oT.isFreed=false:=by refine O hT.symm ?_; rfl
 obtain⟨ts,UI,QS⟩:∃ts,oT.data = .fields ts/\3<ts.size:=⟨_,by exact O hT.symm rfl,by simp only[Zo,ZI,ZH,length_nil];exact(L0 [(if pl.isEmpty=true then replicate (6:Nat) Value.none else pl).length] (.p 1<|.c 3) (.a (.p 1<|.p 1<|.p 1<|.p 1<|.p 1<|.c 0) .x) rfl)⟩
 have pT:P h₁.objs.size:=hP _ (by refine O HU.1 ?_;exact w8 _);exact k _ (((Lv.slots HU λb q=>q).trans<|Lv.push oT).trans<|Lv.upd pa (Z2 (h:=h₁) oT bp)<|Obj.isFreed_of_fields<|Y6 hd (·.setIfInBounds 1 (Value.ref h₁.objs.size)))
  ⟨pa,_,_,C,m,(Heap.get?_update_self (Obj.mapFields (·.setIfInBounds 1 (Value.ref h₁.objs.size))) (Z2 (h:=h₁) oT bp)<|Obj.isFreed_of_fields<|Y6 hd (·.setIfInBounds 1 (Value.ref h₁.objs.size))),⟨(Obj.cls_mapFields _ _).trans hc.1,(BO _ _).trans hc.2⟩,(Y6 hd (·.setIfInBounds 1 (Value.ref h₁.objs.size))),hn,hm,h₁.objs.size,oT,ts,by simp[hsz],(Nat.ne_of_gt<|ZZ bp),((Z0 (h₁.push oT) (Obj.mapFields (·.setIfInBounds 1 (Value.ref h₁.objs.size)))<|Ne.symm<|Nat.ne_of_gt<|ZZ bp).trans<|Z1 h₁ U7),UI,QS,pT⟩
theorem qF(LZ:A.frames=some (e0::d8))(JY:e0.frame=VN.frame)(hl:s.heap.FunFrames B (e0::d8))(hf:VN.frame=some L)(Id:i6 s.heap P a nm)(hP:∀b,s.heap.get? b=none->P b)
  (k:∀h',Lv P (λb=>b∈(e0::d8).filterMap (·.frame)) s.heap h'->dv h' P a nm->Q () {s with heap:=h'}):wpAny IO A (noteFrame (.ref a) VN) Q E s:=by
 obtain⟨pa,oe,vs,C,m,he,hc,hd,hn,hm,ht⟩:=Id;unfold noteFrame;simp only[hf];refine ak λG g=>?_;rcases ht with h1|⟨T,oT,ts,h1,ne,eT,w6,sz,pT⟩
 .exact g (YV<|YU he hd h1<|O (YY (by decide))<|nK LZ JY hl hf he hd (Array.getElem?_eq_some_iff.mp h1).1 hc hn hm pa hP k)
 .refine g ?_;refine YV<|YU he hd h1 ?_;refine O (YX (show(Value.ref T != Value.none)=true from by simp)) ?_;refine YV<|YU eT w6 (Array.getElem?_eq_getElem sz) ?_;by_cases q:(ts[3]==rawInt L)=true
  .exact O (YX q) (YR<|k _ .refl ⟨pa,oe,vs,C,m,he,hc,hd,hn,hm,T,oT,ts,h1,ne,eT,w6,sz,pT⟩)
  refine O (YY q) ?_;refine YV<|wpAny_setField eT w6 sz ?_;have u:Lv P (λb=>b∈(e0::d8).filterMap (·.frame)) s.heap (s.heap.update T<|Obj.mapFields (·.setIfInBounds 3 Value.none)):=Lv.upd pT eT<|Obj.isFreed_of_fields<|Y6 w6 (·.setIfInBounds 3 Value.none);have cC:(s.heap.update T<|Obj.mapFields (·.setIfInBounds 3 Value.none)).FunFrames B (e0::d8):=hl.of_keeps λb o hb nr=>⟨o,(Z0 _ _ λq=>by subst q;rw[eT]at hb;obtain rfl:=aE hb;exact nr ts w6).trans hb,rfl⟩
  refine nK (s:= {s with heap:=s.heap.update T (Obj.mapFields (·.setIfInBounds 3 Value.none))}) LZ JY cC hf ((Z0 _ _ ne).trans he) hd (Array.getElem?_eq_some_iff.mp h1).1 hc hn hm pa (λb e=>hP b ?_) λh' x y=>k h' (u.trans x) y;cases q:s.heap.get? b with
  |none=>rfl
  |some o=>obtain⟨o',e'⟩:=u.live b o q;rw[e]at e';exact am e'
theorem li(fo:Option Addr)(Id:dv s.heap P a nm)(k:∀h',Lv P fs s.heap h'->dv h' P a nm->Q () {s with heap:=h'}):wpAny IO A (setFlight (.ref a) fo) Q E s:=by refine ak λG g=>?_;obtain⟨pa,oe,vs,C,m,he,hc,hd,hn,hm,T,oT,ts,h1,ne,eT,w6,sz,pT⟩:=Id;refine g ?_;unfold setFlight;refine YV<|YU he hd h1 ?_;refine O (YX (show(Value.ref T != Value.none)=true from by simp)) ?_;generalize fo.elim Value.none (λf=>rawInt f)=x;exact wpAny_setField eT w6 sz<|k _ (Lv.upd pT eT<|Obj.isFreed_of_fields<|Y6 w6 (·.setIfInBounds 3 x)) ⟨pa,oe,vs,C,m,(Z0 _ _ ne).trans he,hc,hd,hn,hm,T,_,_,h1,ne,Heap.get?_update_self _ eT<|Obj.isFreed_of_fields<|Y6 w6 (·.setIfInBounds 3 x),Y6 w6 _,by simpa using sz,pT⟩
theorem dv.tb(Id:dv s.heap P a nm){Q:VR}(k:∀T,Q (.ref T) s):wpAny IO A (field (.ref a) 1) Q E s:=by refine ak λG g=>?_;obtain⟨_,oe,vs,_,_,he,_,hd,_,_,T,_,_,h1,_⟩:=Id;exact g<|YU he hd h1<|k T
theorem yZ{HY:String}{Q:α->Shared->Prop}(Id:dv s.heap P a nm)(k:∀h',Lv P (λaa=>False) s.heap h'->dv h' P a nm->E (.ref a) {s with heap:=h'}):wpAny IO A (PySem.passOn HY (.ref a) VN:Sem α) Q E s:=by unfold PySem.passOn;exact YV<|Id.tb λT=>(O (YY (show ¬(Value.ref T==Value.none)=true from by simp))<|YV<|li _ Id λh' lv X'=>wpAny_throw<|k h' lv X')
theorem dv.mono{P':VQ}(Id:dv h P a nm)(k:∀b o vs,o.data = .fields vs->h.get? b=some o->h'.get? b=some o)(kp:∀b,P b->P' b):dv h' P' a nm:=by refine ak λG g=>?_;obtain⟨pa,oe,vs,C,m,he,hc,hd,hn,hm,T,oT,ts,h1,ne,eT,w6,sz,pT⟩:=Id;exact g<|⟨kp _ pa,oe,vs,C,m,k _ _ _ hd he,hc,hd,hn,hm,T,oT,ts,h1,ne,k _ _ _ w6 eT,w6,sz,kp _ pT⟩
theorem nB(LZ:A.frames=some (e0::d8))(JY:e0.frame=VN.frame)(hl:s.heap.FunFrames B (e0::d8))(hf:VN.frame=some L)(Id:i6 s.heap P a nm)(hP:∀b,s.heap.get? b=none->P b)
  (k:∀h',Lv P (λb=>b∈(e0::d8).filterMap (·.frame)) s.heap h'->dv h' P a nm->Q () {s with heap:=h'}):
  wpAny IO A (noteFrame (.ref a) VN) (λaa s'=>wpAny IO A (setFlight (.ref a) none) Q E s') E s:=
 qF LZ JY hl hf Id hP λh₁ x R7=>li (s:= {s with heap:=h₁}) none R7 λbV z mV=>k bV (x.trans z) mV
theorem Al(Id:dv s.heap P a nm)(k:∀h',Lv P (λaa=>False) s.heap h'->dv h' P a nm->Q () {s with heap:=h'}):wpAny IO A (setFlight (.ref a) none) Q E s:=li none Id k
end
section
variable {y:Lay}{bv bv':VS}{KK ag:VP}{Z Z':VQ}{s s':Shared}{h':Heap}{Y:Fm}{P fs:VQ}
theorem vU(I:Inv y KK Z s.heap Y)(x:Lv P fs s.heap h')(hp:∀b,P b-> ¬y.wr KK b/\ ¬y.F b/\ ¬Z b)(hf:∀b,fs b->y.F b\/b=y.L){l:Loc}(hl:y.loc i=some l):
  (∀v,eU s.heap l v->eU h' l v)/\(qD s.heap l->qD h' l):=by
 have np:¬P l.addr:=λp=>(hp _ p).1<|.inr<|.inr ⟨i,l,hl,rfl⟩;by_cases q:fs l.addr
 .have hL:l.addr=y.L:=(hf _ q).elim (λf=>absurd f<|I.wf.nf i l hl) id;cases l with
  |dict b x'=>exact⟨λv ⟨m,hn,hm⟩=>⟨m,dI hn λo=>x.slot b o q np,hm⟩,λ⟨m,hn⟩=>⟨m,dI hn λo=>x.slot b o q np⟩⟩
  |cell b=>exact absurd hL<|I.wf.cl i b hl
  |attr b ns z=>exact absurd hL<|I.wf.al i b ns z hl
 .exact⟨λv r=>r.keeps λo e=>x.keep _ o e np q,λr=>r.keeps λo e=>x.keep _ o e np q⟩
theorem Inv.lv(I:Inv y KK Z s.heap Y)(x:Lv P fs s.heap h')(hp:∀b,P b-> ¬y.wr KK b/\ ¬y.F b/\ ¬Z b)(hf:∀b,fs b->y.F b\/b=y.L):Inv y KK Z h' Y:=by
 have kz:∀a o,Z a->s.heap.get? a=some o->h'.get? a=some o:=λa o z e=>x.keep a o e (λp=>(hp a p).2.2 z) λf=>(hf a f).elim (I.zF a z) λq=>I.zL<|q▸z;have ko:∀a o,KK a≠none->s.heap.get? a=some o->h'.get? a=some o:=λa o z e=>x.keep a o e (λp=>(hp a p).1<|.inl z) λf=>(hf a f).elim (I.oF a z) λq=>z<|q▸I.oL;refine⟨I.wf,λa o e=>kz a o (I.zb a o e)<|I.base a o e,I.zb,I.zo,I.zl,I.ol,I.zL,I.oL,I.zF,I.oF,λa z=>?_,λa z=>?_,λa f=>?_,λi l hl=>(vU I x hp hf hl).2<|I.ok i l hl,?_,λp e=>(I.sf p e).mono kz (λaa z=>z) λl v hl r=>(vU I x hp hf hl).1 v r,λi sl e n=>?_⟩
 .obtain⟨o,e⟩:=I.zlv a z;exact⟨o,kz a o z e⟩
 .obtain⟨o,e⟩:=I.olv a z;exact⟨o,ko a o z e⟩
 .obtain⟨o,Q⟩:=I.flv a f;have np:¬P a:=λp=>(hp a p).2.1 f;by_cases q:fs a
  .exact aB (x.slot a o q np Q.1) λsl e'=>(⟨_,e',Q.2⟩)
  .exact⟨o,x.keep a o Q.1 np q,Q.2⟩
 .obtain⟨m,hn⟩:=I.nsL;have np:¬P y.L:=λp=>(hp _ p).1<|.inr<|.inl rfl;by_cases q:fs y.L
  .exact⟨m,dI hn λo=>x.slot _ o q np⟩
  .exact⟨m,hn.at' λo e=>x.keep _ o e np q⟩
 .obtain⟨l,v,hl,r,q⟩:=I.at' i sl e n;exact⟨l,v,hl,(vU I x hp hf hl).1 v r,q.mono kz (λaa z=>z) (λaa z=>z) λa o z=>ko a o (by refine O z ?_;exact λn=>by cases n)⟩
theorem Step.lv(S:Step y bv KK Z s ag Z' s')(I:Inv y ag Z' s'.heap Y)(x:Lv P fs s'.heap h')(hp:∀b,P b->s.heap.get? b=none/\ ¬y.wr ag b/\ ¬y.F b/\ ¬Z' b)(hf:∀b,fs b->y.F b\/b=y.L) :Step y bv KK Z s ag Z' {s' with heap:=h',toks:=tk} where
 sh:=by refine er S.sh λh₁ SN Q=>?_;subst Q;exact⟨_,_,rfl⟩
 ext:=⟨λa o e nw nf=>x.keep a o (S.ext.keep a o e nw nf) (λp=>by rw[(hp a p).1]at e;exact am e) λf=>(hf a f).elim nf λq=>nw<|.inr<|.inl q,
  λa o e=>let ⟨o',e'⟩:=S.ext.live a o e;x.live a o' e',
  λa o f e=>by
   refine aB (S.ext.fram a o f e) λsl e'=>?_;have np:¬P a:=λp=>(hp a p).2.2.1 f;by_cases q:fs a
   .exact aB (x.slot a _ q np e') λwg KF=>(⟨wg,KF⟩)
   .exact⟨sl,x.keep a _ e' np q⟩⟩
 zm:=S.zm
 zn:=S.zn
 on:=S.on
 bind:=λi l v n hl r=>(vU I x (λb p=>(hp b p).2) hf hl).1 v<|S.bind i l v n hl r
theorem jg(I:Inv y KK Z s.heap Y)(st:Gu (λa=>y.F a\/a=y.L) A):∃l,A.frames=some l/\s.heap.FunFrames B l/\ ∀b∈l.filterMap (·.frame),y.F b\/b=y.L:=by
 obtain⟨l,hl,hk⟩:=st;refine⟨l,hl,?_,λb hb=>?_⟩
 .clear hl;induction l with
  |nil=>trivial
  |cons e l ih=>
   obtain⟨h1,L,j⟩:=hk e<|.head _;have h2:=j.1;have h3:=j.2;refine⟨h1,?_,ih λe he=>hk e<|.tail _ he⟩;have nz:¬Z L:=λz=>h3.elim (I.zF L z) λq=>I.zL<|q▸z;have nb:B.get? L=none:=by cases q:B.get? L with
    |none=>rfl
    |some o=>exact absurd (I.zb L o q) nz
   rcases h3 with h3|h3
   .exact aB (I.flv L h3) λo u=>(⟨L,o,h2,nb,u.1,u.2⟩)
   .refine pc I.nsL λm o aa ai Q=>?_;have ho:=Q.1;have hd:=Q.2.1;exact⟨L,o,h2,nb,h3▸ho,λvs q=>by have q:=hd▸q;cases q⟩
 .refine aB (mem_filterMap.mp hb) λe J=>?_;have he:=J.1;have h1:=J.2;obtain⟨_,L,U⟩:=hk e he;rw[U.1]at h1;exact O (aE h1).symm U.2
inductive Cp{β:Type}(y:Lay)(bv:VS)(KK:VP)(Z:VQ)(s:Shared)(LT:VW β×Fm)(e:Value)(s':Shared):Prop
 |mk (nm:Str) (a:Addr) (ag:VP) (Z':VQ):LT.1 = .error nm->e = .ref a->Inv y ag Z' s'.heap LT.2->Step y bv KK Z s ag Z' s'->dv s'.heap (λb=>s.heap.get? b=none/\ ¬y.wr ag b/\ ¬y.F b/\ ¬Z' b) a nm->Cp y bv KK Z s LT e s'
theorem aV.note{V:Sc}{e:Value}{LT:VW β×Fm}{R:VR}(x:aV y bv KK Z s LT e s')(en:aJ A V VN y)(k:∀dQ,Cp y bv KK Z s LT e dQ->R e dQ):notedBy (model prog w) A VN R e s':=by obtain⟨nm,a,ag,Z',q,rfl,I,S,Id⟩:=x;refine ak λG g=>?_;refine er en.top λe0 d8 Q=>?_;obtain⟨l,cC,z⟩:=jg I en.stk;rw[Q.1]at cC;obtain rfl:=aE cC;exact g<|qF Q.1 Q.2 z.1 en.frame Id (λb e=>⟨S.old b e,I.fresh e⟩) λbV lv mV=>k _ ⟨nm,a,ag,Z',q,rfl,I.lv lv (λb p=>p.2) z.2,S.lv I lv (λb p=>p) z.2,mV⟩
theorem aV.clr{γ:Type}{e:Value}{f:Fm}{l:VS}(x:aV y bv KK Z s ((.error nm:VW β),f) e s'):aV y bv KK Z s ((.error nm:VW γ),Mv.clr f l) e s':=by refine ak λG g=>?_;obtain⟨CA,a,ag,Z',q,e1,I,S,Id⟩:=x;cases q;exact g<|⟨nm,a,ag,Z',rfl,e1,I.clr l,S,Id⟩
theorem lR{V:Sc}{e:Value}{LT:VW β×Fm}(en:aJ A V VN y)(k:∀e s',aV y bv KK Z s LT e s'->E e s')(x:aV y bv KK Z s LT e s'):
  notedBy (model prog w) A VN (λe dQ=>cameBackBy (model prog w) A VN E e dQ) e s':=
 x.note en λaC p=>by obtain⟨nm,a,ag,Z',q,rfl,aF,aO,mV⟩:=p;exact YV<|dv.tb mV λT=>(O (YY (show ¬(Value.ref T==Value.none)=true from by simp))<|li (fs:=λaa=>False) _ mV λfy qN Gc=>k _ _ ⟨nm,a,ag,Z',q,rfl,aF.lv qN (λb p=>p.2) λaa f=>f.elim,aO.lv aF qN (λb p=>p) λaa f=>f.elim,Gc.is⟩)
end
section
variable {A:Around}{c:Cfg}{n:Nat}{VN:Env}{V:Sc}{y:Lay}
 {bv bv':VS} {KK af:VP} {Z au:VQ} {s s₁:Shared} {Y aj:Fm}
theorem jO{f:Value}{Q:Args->Shared->Prop}(F:F2 (λe x=>CE V e x/\SE A c y (eval e VN) x) es M)
  (h:wpAny (model prog w) A (spliced<|backTo pos<|starEach es VN) (λvs s'=>Q ⟨vs,[]⟩ s') E s):wpAny (model prog w) A (evalArgs f true (backTo pos<|starEach es VN) []) Q E s:=by
 cases es with
 |nil=>unfold evalArgs;refine YV<|YS h (λvs s' h'=>wpAny_holding<|YV<|YR<|YV<|YR<|YR h') λaa ai x=>x
 |cons e es=>cases M with
  |nil=>exact F.elim
  |cons x M=>rw[F.1.1.star VN es]at h ⊢;exact Z5 h
theorem Gb:ya y [] none:=⟨rfl,λk i h=>am h,λi l aa h=>by refine er h λaa ai h=>?_;exact am h,λaa ai=>Zp,λaa ai br h=>am h⟩
inductive mC(A:Around)(y:Lay)(bv rb:VS)(KK:VP)(Z:VQ)(s:Shared)(LT:VW Rv×Fm)(r:Result)(s':Shared):Prop
 |ok (v:Value):r = .ok (.ret v)->gL y (rb++bv) KK Z s LT v s'->mC A y bv rb KK Z s LT r s'
 |err (e:Value):r = .error e->aV y (rb++bv) KK Z s LT e s'->mC A y bv rb KK Z s LT r s'
theorem Lb{o:VW Rv}{f:Fm}(h:aT (some (o,f)) (λr Y=>mo (c5 r) λaa=>some (.ok r,Y))=some LT):LT=(o,f):=by cases o with
 |error e=>exact(aE h).symm
 |ok r=>exact aB (ba h) λaa h=>(aE h.2).symm
theorem rU{as:VS}{J:Ins}{vs:VU}(R:Rn A c n)(en:aJ A V VN y)(hd:tb.fn[f]?=some d)(Vj:xW f d J fa)(q:ya y as J)
  (h:nU c f as rs aj=some LT) (ax:Inv y af au s₁.heap aj) (S:Step y bv KK Z s af au s₁) (Rs:ey y af au s.heap s₁.heap rs vs):
  codeAny (model prog w) A (.call (.ref fa) ⟨kq J++vs,[]⟩) (mC A y bv (DL (sX f) as) KK Z s LT) s₁:=by
 refine aB (ba h) λss h1=>?_;have nd:=AE h1.2;refine aB (ba nd.2) λo hc=>?_;refine codeAny_mono (R.cs c.hd f _ o.1 o.2 hc.1 d hd J fa Vj A _ _ _ _ vs (le_of_succ_le R.dep) (Zg (Zl _ 4) R.un) R.hh en.stk (FU ax _) (rT ax q _)<|uy ax Rs h1.1 nd.1 q) λr s' P=>?_;refine O (Lb hc.2) ?_;refine ak λG g=>?_;obtain⟨ag,Z',I',S',⟨rv,v,q,rfl,R'⟩|⟨nm,ea,q,rfl,Id⟩⟩:=xM ax Rs h1.1 nd.1 q P
 .exact g (.ok v rfl ⟨rv,ag,Z',q,I',(S.sub eI).trans<|S'.sub di,R'.since S.old⟩)
 .exact g (.err _ rfl ⟨nm,ea,ag,Z',q,rfl,I',(S.sub eI).trans<|S'.sub di,Id.mono λb aa ai h=>⟨S.old b h.1,h.2⟩⟩)
theorem mC.wp{Q:VR}{vs:VU}(h:codeAny (model prog w) A (.call (.ref fa) ⟨vs,[]⟩) (mC A y bv rb KK Z s LT) s₁)
  (k:∀v s',gL y (rb++bv) KK Z s LT v s'->Q v s') (k':∀e s',aV y (rb++bv) KK Z s LT e s'->E e s'):wpAny (model prog w) A (call (.ref fa) vs) Q E s₁:=
 wpAny_call (codeAny_mono h λr s' P=>by cases P with
  |ok v e p=>subst e;exact k v s' p
  |err e e' p=>subst e';exact k' e s' p)
theorem xW.of(R:Rn A c n)(hf:tb.fn[f]?=some d/\f<tb.m0):∃fa o,mg d.name=some (.ref fa)/\B.get? fa=some o/\(∃pm code gS,o.data = .func (docDef d.name d.params d.body d.scope pm code gS))/\xW f d none fa:=by refine ak λG g=>?_;obtain⟨a,o,pm,code,gS,hm,ho,hd,rg⟩:=R.gd.fn f d hf.2 hf.1;exact g<|⟨a,o,hm,ho,⟨pm,code,gS,hd⟩,⟨λaa=>hf.2,λaa=>rfl⟩,o,d.name,pm,code,gS,ho,hd,rg⟩
theorem DK{as:VS}(h:f<tb.m0):DL (sX f) as=[]:=by unfold sX;refine O (YX h) ?_;rfl
theorem DB{p:Pos}(R:Rn A c n)(en:aJ A V VN y)(hf:tb.fn[f]?=some d/\f<tb.m0)(hg:V.isG d.name)
  (F:F2 (λe x=>CE V e x/\SE A c y (eval e VN) x) es M):SE A c y (eval (.Call (.Name d.name p) es [] pos) VN) (.call f M):=by
 intro KK Z s Y LT h I;refine ak λG g=>?_;obtain⟨a,o,hm,ho,⟨pm,code,gS,hd⟩,fa⟩:=xW.of R hf;refine g ?_;refine Call_Name rfl<|eP R.gd en I hg hm ?_;refine Calls.callWith_function (o:=o) (fd:=docDef d.name d.params d.body d.scope pm code gS)<|jO F ?_;refine km (bv:=bu M) h .refl (λaa h=>h) (λo e=>qv F KK Z s Y o e I) λrs aj af au s₁ vs bp h ax aW S Rs=>?_;refine⟨⟨ax.base a o ho,hd⟩,?_⟩;have q:=rU (bv:=bu M) R en hf.1 fa Gb h ax S Rs;rw[DK hf.2]at q;exact mC.wp q (λv s' p=>p) λe s' p=>p
theorem Rn.big(R:Rn A c n)(I:Inv y KK Z s.heap Y):3<s.heap.objs.size:=by exact kF R.gd.g λo aa ai q=>(ZZ<|I.base _ _ q.1)
theorem Jd{b:Bi}{d:D}{r:Rv}{a:Value}(hb:b.one=true)(he:jm b [d]=some r)(hh:b.loops=true->A.handled=none)(hs:3<s.heap.objs.size)(zl:∀b,Z b-> ∃o,s.heap.get? b=some o)(ra:cU s.heap Z a d):wpAny (model prog w) A (call (nY b) [a]) (Op Z s r) E s:=by cases b with
 |len=>rw[jN]at he;cases hl:D9 d with
  |none=>rw[hl]at he;exact am he
  |some n=>rw[hl]at he;exact O (aE he).symm<|Ja hl ra
 |isi t=>cases hb
 |sum=>
  cases d<;>first|exact am he|skip
  refine aB (Z9 he) λn q=>?_;refine O q.2.symm ?_;exact I6 (hh rfl) q.1 ra
 |abs=>
  cases d<;>first|exact am he|skip
  exact O (aE he).symm<|Je ra
 |int=>
  cases d<;>first|exact am he|skip
  exact O (aE he).symm<|DS ra
 |tuple=>cases d with
  |list M=>exact O (aE he).symm<|wA ra
  |tuple M=>exact O (aE he).symm<|wz ra
  |_=>exact am he
 |str=>cases d with
  |int i=>cases i with
   |ofNat n=>exact I7 he ra
   |negSucc n=>exact am he
  |_=>exact am he
 |dict=>exact DU hs (hh rfl) he ra zl
 |list=>
  cases d<;>first|exact am he|skip
  exact O (aE he).symm<|zc ra
 |_=>cases hb
theorem B3{b:Bi}{args:List (Bool×Sem Value)}{Q:VR}(fT:args.any (·.1)=false)
  (h:wpAny (model prog w) A (evalArgs (nY b) true args []) (λa s₁=>wpAny (model prog w) A (call (nY b) ([]++a.pos) a.kw) Q E s₁) E s):
  wpAny (model prog w) A (callWith pos (nY b) [] args []) Q E s:=by
 cases b with
 |len=>exact callWith_builtin (first:=[]) fT h
 |isi t=>exact callWith_builtin (first:=[]) fT h
 |sum=>exact callWith_builtin (first:=[]) fT h
 |abs=>exact callWith_builtin (first:=[]) fT h
 |int=>exact Y3 (first:=[]) fT h
 |tuple=>exact Y3 (first:=[]) fT h
 |list=>exact Y3 (first:=[]) fT h
 |str=>exact Y3 (first:=[]) fT h
 |dict=>exact Y3 (first:=[]) fT h
 |_=>exact callWith_builtin (first:=[]) fT h
theorem IN{b:Bi}{x:Ex}{p:Pos}(R:Rn A c n)(en:aJ A V VN y)(hb:b.one=true)(hg:V.isG (dF b))(hc:CE V e x)(H:SE A c y (eval e VN) x):
  SE A c y (eval (.Call (.Name (dF b) p) [e] [] pos) VN) (.bi b [x]):=by
 intro KK Z s Y LT h I;have hl:=EJ h;refine Call_Name (args:=[e]) rfl<|d9 R.gd en I hg (mr b) (nZ b) (vJ b) ?_;have F:F2 (λe x=>CE V e x/\SE A c y (eval e VN) x) [e] [x]:=⟨⟨hc,H⟩,(λi aa h=>by cases h),trivial⟩
 refine B3 (by refine O (hc.star VN []) ?_;rfl)<|jO F ?_;refine km (bv:=bu [x]) hl.2 .refl (λaa h=>h) (λo e=>qv F KK Z s Y o e I) λrs aj af au s₁ vs bp h ax aW S Rs=>?_;obtain⟨r,rfl⟩:=List.length_eq_one_iff.mp (jE bp:rs.length=1);obtain⟨v,Q⟩:=Rs.one;refine O Q.1 ?_;refine aB (ba h) λX z=>aB (sV z.1) λd z'=>?_;obtain⟨q,hq,rfl⟩:=hH<|z'.2▸z.2;refine YS (Jd hb hq (λh'=>R.hh ?_) (R.big ax) ax.zlv<|Q.2.dat ax<|oo z'.1) (λv s' p=>p.post ax S) λaa ai x=>x;cases hh:c.hd with
 |false=>rfl
 |true=>exact absurd (by refine O hh<|O h' ?_;rfl) hl.1
theorem sM(t:Ty):(cI t:Str)∈jM:=by cases t<;>(dsimp only[cI];decide)
theorem v7(t:Ty) :(cI t:Str)≠("__name__" :Str):=by cases t <;> (dsimp only [cI]; decide)
theorem IL{t:Ty}{e:Expr}{x:Ex}{p p' pos:Pos}(R:Rn A c n)(en:aJ A V VN y)(hg:V.isG "isinstance")(NW:V.isG (cI t))(hc:CE V e x)(H:SE A c y (eval e VN) x) :
  SE A c y (eval (.Call (.Name "isinstance" p) [e,.Name (cI t) p'] [] pos) VN) (.bi (.isi t) [x]):=by
 intro KK Z s Y LT h I;refine Call_Name (args:=[e,.Name (cI t) p']) rfl<|d9 R.gd en I hg (mr<|.isi t) (nZ<|.isi t) (vJ<|.isi t) ?_;refine B3 (b:=.isi t) (by rw[hc.star VN];rfl) ?_;rw[hc.star VN];refine Z5<|Z4 ?_;refine dw (bv:=aY x) (bv':=aY x++[]) (Hm (EJ h).2) .refl di (λo e=>H KK Z s Y o e I) λr aj af au s₁ v bp h ax aW S R1=>?_;refine aB (ba h) λX z=>aB (sV z.1) λd z'=>?_;obtain⟨q,hq,rfl⟩:=hH<|z'.2▸z.2;exact O (aE hq).symm<|Z4<|d9 R.gd en ax NW (sM t) (v7 t) (F5 t)<|spliced_nil<|YS (Jb t<|R1.dat ax z'.1) (λv s' p=>p.post ax S) λaa ai x=>x
end
theorem bE.keyZ(hz:∀a (vs:Array Value) n,Z a->IsT h a vs n->Z' a){v:Value}{d:D}(r:bE h Z v d)(hk:b9 d=true):bE h Z' v d:=
 (kX (P1:=λv d=>b9 d=true->bE h Z' v d) (P2:=λvs X=>eX X=true->aq h Z' vs X) (P3:=λaa ai=>True) (λk=>noConfusion k) (λaa k=>noConfusion k) (λi t aa=>.int i t) (λx t a b aa=>.str x t a b) (λaa ai br eH k=>noConfusion k) (λz g l r k=>.tuple (hz _ _ _ z g) g l<|r k) (λaa ai br eH k=>noConfusion k) (λaa=>.nil) (λa b k=>.cons (a (fI k).1)<|b (fI k).2) trivial λaa ai br eH=>trivial).1 r hk
section
variable {A:Around}{c:Cfg}{n:Nat}{VN:Env}{V:Sc}{y:Lay}
 {bv bv':VS} {KK af:VP} {Z au:VQ} {s s₁:Shared} {Y aj:Fm}
theorem yN{p:Pos}(R:Rn A c n)(en:aJ A V VN y)(hf:tb.fn[f]?=some d/\f<tb.m0)(hg:V.isG d.name)(hx:V.isV x i):
  SE A c y (eval (.Call (.Name d.name p) [.Name x p'] [] pos) VN) (.callp f i):=by
 intro KK Z s Y LT h I;obtain⟨M,dd,aM,hs,hc,hk,rfl⟩:=ml h;refine ak λG g=>?_;obtain⟨a,o,hm,ho,⟨pm,code,gS,hd⟩,fa⟩:=xW.of R hf;obtain⟨l,v,hl,hr,b,rfl,ob,W⟩:=I.at' i _ hs (by intro n;exact Slot.noConfusion n);refine g ?_;refine Call_Name rfl<|eP R.gd en I hg hm ?_;refine Calls.callWith_function (o:=o) (fd:=docDef d.name d.params d.body d.scope pm code gS)<|Z5<|Z4<|hV en hx hl hr<|spliced_nil ?_;refine⟨⟨I.base a o ho,hd⟩,?_⟩;have on:KK b≠none:=by exact O ob (λn=>by exact nomatch n)
 have nb:¬(y.F b\/b=y.L):=λq=>q.elim (I.oF b on) λq=>on<|q▸I.oL;obtain⟨vs,m,hb⟩:∃vs m,IsL s.heap b vs m:=by cases W with|list g _ _=>exact⟨_,_,g⟩
 have gh:Gh (λa=>y.F a\/a=y.L) (λaa=>none) (λc=>Z c\/c=b) s.heap:=⟨I.base,λa o e=>.inl<|I.zb a o e,λaa ai=>rfl,λc z q=>z.elim (λz=>q.elim (I.zF c z) λq=>I.zL<|q▸z) λz=>nb<|z▸q,λaa n=>absurd rfl n,λc z=>z.elim (I.zlv c) λq=>⟨_,q▸hb⟩,λaa n=>absurd rfl n,λc q=>?_⟩
 .have sl:iJ none (λaa=>none) (λc=>Z c\/c=b) s.heap [.fz<|.list M] [.ref b]:=⟨rfl,λaa ai br eH h=>am h,λk sl v e e'=>?_⟩
  .refine wpAny_call (codeAny_mono (R.cs c.hd f _ _ aM hc d hf.1 none a fa A _ _ _ s [.ref b] (le_of_succ_le R.dep) (Zg (Zl _ 4) R.un) R.hh en.stk gh (λaa ai br e=>am e) sl) λr s' P=>?_);obtain⟨ag,Z',G',_,S,_,_,_,⟨rv,v,q,rfl,RR⟩|⟨_,_,q,_⟩⟩:=P
   .obtain rfl:=jk q;have Ri:IsL s'.heap b vs m:=S.ext.keep b _ hb (λw=>w.elim (λw=>w rfl) λ⟨_,_,e⟩=>am e) nb;have lv:Lv (λaa=>False) (λa=>y.F a\/a=y.L) s.heap s'.heap:=⟨λc o e aa q=>S.ext.keep c o e (λw=>w.elim (λw=>w rfl) λ⟨_,_,e⟩=>am e) q,λc o q aa e=>S.ext.fram c o q e,S.ext.live⟩
    have S':Step y [] KK Z s KK Z s':=by refine er S.sh λh' tk e=>?_;subst e;exact Step.lv (s':=s) .refl I lv (λaa q=>q.elim) λaa q=>q
    have hP:∀c,Z' c/\s.heap.get? c=none-> ¬y.wr KK c/\ ¬y.F c/\ ∃o,s'.heap.get? c=some o:=λc q=>⟨(I.fresh q.2).1,(I.fresh q.2).2.1,G'.zlv c q.1⟩
    refine⟨.fz dd,KK,_,rfl,(I.lv lv (λaa q=>q.elim) λaa q=>q).addP hP, {S' with zm:=λc z=>.inl z,zn:=λc z=>z.elim .inl λq=>.inr (.inr q.2)},bE.keyZ (λc us k z t=>?_) RR hk⟩;rcases S.zn c z with(z|q)|z|z
    .exact .inl z
    .subst q;have t:s'.heap.get? c=_:=t;have Ri:s'.heap.get? c=_:=Ri;rw[Ri]at t;exact absurd (type.inj<|Y2 Obj.cls<|aE t) (by decide)
    .exact absurd rfl z
    .exact .inr ⟨by assumption,z⟩
   .exact Kr q
  .cases k with
   |zero=>obtain rfl:=aE e;obtain rfl:=aE e';exact⟨(λn=>by cases n),W.rep (λaa z=>.inl z)<|.inr rfl⟩
   |succ k=>cases k<;>exact am e'
 .rcases q with q|q
  .exact I.flv c q
  .subst q;refine pc I.nsL λm o es ep Q=>?_;have ho:=Q.1;have hd:=Q.2.1;exact⟨o,ho,λvs q=>by have q:=hd▸q;exact nomatch q⟩
theorem Ld{p:Addr×Obj}(J:kJ V VN y p dx)(wf:y.Wf)(de:V.ats≠ []):ya y V.as (some (p.1,p.2,dx)) where
 len:=J.len
 at':=λk i h=>by obtain⟨a,Q⟩:=J.as k i h;exact⟨_,map_eq_some_iff.mpr ⟨a,Q.1,rfl⟩,Q.2⟩
 full:=λi l hl ⟨x,o,e⟩=>by have e:=(Y2 (·.2.2)<|Y5 e).symm;refine aB (List.getElem?_of_mem<|J.full i l hl e) λk hk=>?_;obtain⟨a,ha⟩:=J.zd i l hl e;exact⟨k,_,_,a,hk,ha⟩
 si:=λq e m=>by refine aB (List.getElem?_of_mem m) λk hk=>?_;obtain⟨a,Z⟩:=J.as k _ hk;have hl:=Z.2;have hl:=J.ls▸hl;cases hl
 slf:=λx o d e=>by cases e;refine⟨J.slf,J.cls,J.nc,J.dic,J.ne,?_⟩;cases q:V.ats with
  |nil=>exact absurd q de
  |cons z zs=>obtain⟨a,_,hl⟩:=J.as 0 z.2 (by unfold Sc.as;refine O q ?_;rfl);exact⟨_,a,hl⟩
theorem qo:∀{es:VV}{M:List Ex},F2 (λe x=>CE V e x/\SE A c y (eval e VN) x) es M->(backTo pos<|starEach es VN).all (λx=>!x.1)=true:=by intro es;induction es with
 |nil=>intro M _;rfl
 |cons e es ih=>intro M F;cases M with
  |nil=>exact F.elim
  |cons x M=>exact O (F.1.1.star VN es)<|and_eq_true_iff.mpr ⟨rfl,ih F.2.2⟩
theorem xY{o:Expr}{name:Str}{Q:VR}(N1:attributeBase o name VN (eval o VN)=eval o VN)(F:F2 (λe x=>CE V e x/\SE A c y (eval e VN) x) es M)(hn:es.length<=28)(NQ:(fC.endLine==pos.line)=true)
  (h:wpAny (model prog w) A (eval o VN) (λov s₁=> ∀pl,wpAny (model prog w) A (getMethod ov name pl) (λfv aC=>wpAny (model prog w) A (callWith pos fv.1 fv.2 (backTo pos<|starEach es VN) []) Q E aC) E s₁) E s):
  wpAny (model prog w) A (eval (.Call (.Attribute o name fC) es [] pos) VN) Q E s:=by
 rw[arm_eval_Call];refine O N1 ?_;refine YV<|YS h (λov s₁ h₁=>?_) λaa ai e=>e;refine YV<|wpAny_standAt ?_;have NX:methodCallForm (es.length+([]:List Keyword).length) (backTo pos<|starEach es VN) (backToKw pos<|keywordEach [] VN)=true:=by unfold methodCallForm;exact O (qo F)<|Y0 (show es.length<30 from Ze hn (by decide))
 have QZ:methodCallPos true o VN fC pos=pure pos:=by unfold methodCallPos;simp[NQ]
 unfold methodCall;refine O NX ?_;refine YV<|wpAny_holding<|YS (h₁ _) (λfv aC bV=>?_) λaa ai x=>x;exact YV<|wpAny_of_eq QZ bV
theorem D5{p:Addr×Obj}{LT:VW β×Fm}{KK:VP}{Z:VQ}{s:Shared}{Y:Fm}{Q:VR}{pl:Sem Bool}{k:List Rv->Fm->bF β}(R:Rn A c n)(en:aJ A V VN y)(J:kJ V VN y p dx)(de:V.ats≠ [])(hf:tb.fn[f]?=some d/\tb.m0<=f)
  (F:F2 (λe x=>CE V e x/\SE A c y (eval e VN) x) es M) (I:Inv y KK Z s.heap Y) (h:aT (jF c M Y) k=some LT) (kE:∀e s',aV y (bu M) KK Z s LT e s'->E e s')
  (K:∀rs aj,k rs aj=some LT-> ∃o,nU c f V.as rs aj=some o/\(∀v s',gL y (DL (sX f) V.as++bu M) KK Z s o v s'->Q v s')/\ ∀e s',aV y (DL (sX f) V.as++bu M) KK Z s o e s'->E e s'):
  wpAny (model prog w) A (getMethod (.ref p.1) d.name pl) (λfv aC=>wpAny (model prog w) A (callWith pos fv.1 fv.2 (backTo pos<|starEach es VN) []) Q E aC) E s:=by
 refine ak λG g1=>?_;refine er J.cls λcr C j=>?_;refine ak λG1 g2=>?_;refine kF (R.gd.pl cr j.1) λC' N mN U=>?_;have tT:=U.1;have P:=U.2.1;have jR:=U.2.2.1;have PL:=U.2.2.2;have tT:=j.2.1▸tT;cases tT;refine ak λG2 g3=>?_;obtain⟨JV,Tp,z,hz⟩:=PL f d hf.2 hf.1;refine ak λG3 g4=>?_;obtain⟨fa,o,pm,cd,gS,h1,h2,h3,h4,h5⟩:=P.meths _ JV;have q:=Ld J I.wf de;refine ak λG4 g5=>?_;obtain⟨_,_,_,_,_,i0,a0,UR⟩:=q.slf _ _ _ rfl;refine ak λG5 g=>?_;refine aB (I.ok i0 _ UR) λmA q0=>?_;have Tk:mA d.name=none:=by cases e:mA d.name with
  |none=>rfl
  |some v=>exact absurd (q0.2 d.name (by refine O e ?_;exact λq=>by cases q)) Tp
 refine ak λG6 g6=>?_;obtain ⟨nm,qn,bs,sn,sub,col,Vn,k0,k1,k2,k3,k5,G9⟩:=(P.cls.keeps I.base).obj;refine g6 ?_;refine g ?_;refine g5 ?_;refine g4 ?_;refine g3 ?_;refine g2 ?_;refine g1 ?_;refine method_of G9 (P.cls.keeps I.base).ns (P.quiet _ (Zx _ (by decide))) (P.quiet _ (Zx _ (by decide))) h1 (I.base _ _ h2) h3 hz ⟨p.2,(I.sf p J.slf).ob,j.2.2,J.nc,.inr ⟨dx,J.dic,J.ne,q0.1⟩⟩ Tk ?_;refine Calls.callWith_function (o:=o) (fd:=methDef d.name (cr.name ++ "." ++ d.name) d.params d.body d.scope pm cd gS) (jO F ?_);refine YS (km (bv:=bu M) h .refl (fun aa h=>h) (fun o e=>qv F KK Z _ Y o e I) fun rs aj af au s₁ vs bp h ax aW S Rs=>?_) (fun aa ai x=>x) fun e s' x=>kE e s' x;refine aB (K rs aj h) λo' u=>?_;refine⟨⟨ax.base fa o h2,h4⟩,?_⟩;exact mC.wp (rU (bv:=bu M) R en hf.1 (⟨⟨λq=>am q.symm,λq=>absurd hf.2 (Nat.not_le.mpr q)⟩,o,_,pm,cd,gS,h2,h4,h5⟩) q u.1 ax S Rs) u.2.1 u.2.2
theorem yI{f:Nat}{d:DefRec}{x:Str}{p ap pos:Pos}{es:VV}{M:List Ex}(R:Rn A c n)(en:aJ A V VN y)(hf:tb.fn[f]?=some d∧tb.m0 < f∧tb.rb[f-tb.m0]?=some [])(hx:x=V.sn∧(x == ("__debug__" :Str))=false∧V.ats≠ [])(hl:(ap.endLine == pos.line)=true)
  (F:F2 (λe x=>CE V e x/\SE A c y (eval e VN) x) es M) (hn:es.length<=28):SE A c y (eval (.Call (.Attribute (.Name x p) d.name ap) es [] pos) VN) (.mcall f V.as M):=by
 intro KK Z s Y LT h I;refine er (en.ins hx.2.2) λpp dx J=>?_;have hr:DL (sX f) V.as=[]:=by unfold sX;refine O (YY<|Nat.not_lt.mpr<|le_of_lt hf.2.1)<|O hf.2.2 ?_;rfl
 exact xY rfl F hn hl<|iB J en I hx.1 hx.2.1 λpl=>(D5 R en J hx.2.2 ⟨hf.1,le_of_lt hf.2.1⟩ F I h (λe s' p=>p) λrs aj h=>⟨_,h,λv s' p=>by rw[hr]at p;exact p,λe s' p=>by rw[hr]at p;exact p⟩)
theorem m5{sl:Slot}(I:Inv y KK Z s.heap Y){l:Loc}(hl:y.loc i=some l)(hr:eU s.heap l (.ref a))(oa:KK a=some i)
  (pV:Heap.SameBut a s.heap h') (lv:∃o,h'.get? a=some o) (W:dH h' Z (λb=>KK b=some i) sl (.ref a)):Inv y KK Z h' (Y.set i sl)/\Step y [] KK Z s KK Z {s with heap:=h'}:=by
 have on:KK a≠none:=by exact O oa (λn=>by cases n)
 refine⟨I.setC hl hr oa (λb o q e=>pV.extBut b o q e) lv W,⟨⟨_,_,rfl⟩,⟨λb o e nw nf=>pV.extBut b o (λq=>nw<|.inl<|q▸on) e,λb o e=>?_,λb o f e=>⟨o.slots,pV.extBut b o (λq=>I.oF a on<|q▸f) e⟩⟩,λaa z=>z,λaa z=>.inl z,λaa ai e=>.inl e,λj k v aa hk r=>r.keeps λo e=>pV.extBut _ o (λq=>on<|q▸I.ol j k hk) e⟩⟩;by_cases q:b=a
 .subst q;exact lv
 .exact⟨o,pV.extBut b o q e⟩
theorem jv{d':D}(I:Inv y KK Z s.heap Y){l:Loc}(hl:y.loc i=some l)(hr:eU s.heap l (.ref a))(oa:KK a=some i)
  (pV:Heap.SameBut a s.heap h') (W:cT h' Z a d'):Inv y KK Z h' (Y.set i<|.KK d')/\Step y [] KK Z s KK Z {s with heap:=h'}:=m5 I hl hr oa pV W.live ⟨a,rfl,oa,W⟩
theorem iv{d:D}(h:iU Y (.var i)=some d):Y[i]?=some (.KK d):=by
 simp only[iU]at h;split at h
 .refine O (aE h).symm ?_;assumption
 .exact am h
theorem yY{o:Expr}(hx:PE V o i):attributeBase o nm VN (eval o VN)=eval o VN:=by cases hx with
 |nm hx=>rfl
 |atr hx=>rfl
theorem gW{o:Option Slot}{X:VY}(h:lA o=some X):o=some (.tab X):=by rcases o with _|⟨_|_|_|_⟩<;>first|exact am h|exact Y2 (λx=>some<|Slot.tab x)<|aE h
inductive HD(Y:Fm)(LT:VW Rv×Fm):Prop
 |mk (d:D) (aj:Fm):LT=(.ok<|.fz d,aj)->(∀(i:Nat)(X:VY),aj[i]?=some (.tab X)->Y[i]?=some (.tab X))->HD Y LT
theorem jT(h:ev c (.var j) Y=some LT):HD Y LT:=by
 rcases qd h with⟨d,hd,q⟩|⟨d,hd,q⟩
 .exact⟨d,Y,q,λaa ai e=>e⟩
 .exact⟨d,_,q,λi X e=>by
   rcases dB e with⟨_,q⟩|⟨_,e⟩
   .exact Slot.noConfusion q
   .exact e⟩
open Classical in
theorem lG(R:Rn A c n):(f9 prog w).room A.in1:=by
 have:=R.cl;show A.units+1+8<cLine
 exact Ze (add_le_add_left (by decide:9<=66) _) this
open Classical in
inductive HE(y:Lay)(KK:VP)(Z:VQ)(h:Heap)(i:Nat)(X:VY):Prop
 |mk (l:Loc) (t:Addr) (M:List (D×Addr×Value)):y.loc i=some l->eU h l (.ref t)->KK t=some i->(t==sysModules)=false->h.DictOfH (f9 prog w) t M->M.length<=Sz->KT h Z M X->HE y KK Z h i X
theorem Inv.tabIn{X:VY}(I:Inv y KK Z h Y)(e:Y[i]?=some (.tab X)):HE y KK Z h i X:=by obtain⟨l,v,hl,hr,t,rfl,ot,M,a,b,d,e⟩:=I.at' i _ e (by intro n;cases n);exact⟨l,t,M,hl,hr,ot,a,b,d,e⟩
theorem bE.keyRef{k:D}{v:Value}(o:fH k=true)(r:bE h Z v k):∃a,v = .ref a:=by cases k with
 |tuple M=>obtain⟨l,_,_,e,_⟩:=cU.tuple<|.inl r;exact⟨l,e⟩
 |_=>cases o
open Classical in
theorem yz{z a:Str}{p:Pos}{Q:VR}(R:Rn A c n)(en:aJ A V VN y)(hx:V.isV x j)(ha:V.isA z a i)(h:ev c (.tin i<|.var j) Y=some LT)(I:Inv y KK Z s.heap Y)
  (K:∀b aj af au s₁,LT=(.ok<|.fz<|.bool b,aj)->Inv y af au s₁.heap aj->Step y [] KK Z s af au s₁->Q (.bool b) s₁):
  wpAny (model prog w) A (eval (.Name x px) VN) (λv s₁=>wpAny (model prog w) A (eval (.Attribute (.Name z p) a ap) VN) (λv' aC=>wpAny (model prog w) A (compareOp .NotIn v v') Q E aC) E s₁) E s:=by
 rcases aN h with⟨e,f,hm,_⟩|⟨r,aj,hm,h⟩
 .obtain⟨_,_,q,_⟩:=jT hm;cases q
 obtain⟨k,f,q,hf⟩:=jT hm;cases q;refine aB (ba h) λk' Su=>aB (ba Su.2) λX Ss=>?_;obtain rfl:=aE Su.1;obtain⟨ko,rfl⟩:=ed Ss.2;refine YS (jU en hx KK Z s Y _ hm I) (λv s₁ p=>?_) λaa ai x=>x.elim;refine ak λG g=>?_;obtain⟨r',af,au,q,ax,aW,R1⟩:=p;obtain rfl:=jk q;have R1:bE s₁.heap au v k:=R1;obtain⟨b,rfl⟩:=R1.keyRef ko;obtain⟨l,t,M,hl,hr,ot,sy,dm,ln,kt⟩:=ax.tabIn<|gW Ss.1;refine g ?_;refine eW R.gd en ax ha hl hr rfl λtk=>?_;refine wpAny_notIn_heap (knd:=f9 prog w) (s:= {s₁ with toks:=tk}) (lG R) (bE.isKey ko R1) sy dm ?_;have e:(!(atKey M k).isSome)=(bK k X).isNone:=by cases kt.get ko with
  |no a b=>rw[a,b];rfl
  |yes p d a b _=>rw[a,b];rfl
 rw[e];exact K _ _ af au _ rfl ax<|aP<|aP aW
theorem ID{z a:Str}{p:Pos}(R:Rn A c n)(en:aJ A V VN y)(hx:V.isV x j)(ha:V.isA z a i):SE A c y (eval (.Compare (.Name x px) [.NotIn] [.Attribute (.Name z p) a ap] pos) VN) (.tin i<|.var j):=
 λKK Z s Y LT h I=>wpAny_Compare1 (yz R en hx ha h I λb aj af au s₁ e ax aW=>O e<|.val ax aW<|.bool b) rfl
theorem Ia{z a:Str}{p:Pos}(R:Rn A c n)(en:aJ A V VN y)(hx:V.isV x j)(ha:V.isA z a i):ST A c y (isTrue (.Compare (.Name x px) [.NotIn] [.Attribute (.Name z p) a ap] pos) VN ki) (.tin i<|.var j):=
 λKK Z s Y LT h aa I=>wpAny_isTrue_Compare1 (yz R en hx ha h I λb aj af au s₁ e ax aW=>wpAny_truthy_bool<|O e ⟨_,_,af,au,rfl,rfl,rfl,ax,aW⟩) rfl
open Classical in
theorem Dv{z a:Str}{p:Pos}(R:Rn A c n)(en:aJ A V VN y)(hx:V.isV x j)(ha:V.isA z a i):SE A c y (eval (.Subscript (.Attribute (.Name z p) a ap) (.Name x px) pos) VN) (.tget i<|.var j):=by
 intro KK Z s Y LT h I;rcases aN h with⟨e,f,hm,_⟩|⟨r,aj,hm,h⟩
 .obtain⟨_,_,q,_⟩:=jT hm;cases q
 obtain⟨k,f,q,hf⟩:=jT hm;cases q;refine aB (ba h) λk' Sr=>aB (ba Sr.2) λX Py=>?_;obtain rfl:=aE Sr.1;have ko:=(AE Py.2).1;refine aB (zk (AE Py.2).2) λd hq=>?_;refine O hq.2 ?_;have hg:=hq.1
 .refine ak λG g=>?_;obtain⟨l,t,M,hl,hr,_⟩:=I.tabIn<|hf i X<|gW Py.1;refine g ?_;refine Subscript_<|eW R.gd en I ha hl hr rfl λtk=>?_;refine YS (jU en hx KK Z {s with toks:=tk} Y _ hm I) (λv s₁ p=>?_) λaa ai x=>x.elim;refine ak λG g=>?_;obtain⟨r',af,au,q,ax,aW,R1⟩:=p;obtain rfl:=jk q;have R1:bE s₁.heap au v k:=R1;obtain⟨b,rfl⟩:=R1.keyRef ko;obtain⟨l',t',M,cC,AK,ot,sy,dm,ln,kt⟩:=ax.tabIn<|gW Py.1;have cC:=hl▸cC;obtain rfl:=aE cC;have e:=eU.det (aW.bind i l _ (λh=>by cases h) hl hr) AK;cases e;refine g ?_;cases kt.get ko with
  |no a b=>rw[a]at hg;exact am hg
  |yes u d' a b rp=>have a:=hg▸a;obtain rfl:=aE a;exact tail_any dm.typeIs slot_dict_getitem.lookup (wpAny_getItem_heap (knd:=f9 prog w) (lG R) (bE.isKey ko R1) dm b<|.val (s':= {s₁ with toks:=_}) ax (aP<|(aP .refl).trans aW) rp)<|CE.isPlain (CQ.var hx:CE V (.Name x px) (.var j)) _ _
end
section
variable {A:Around}{c:Cfg}{n:Nat}{VN:Env}{V:Sc}{y:Lay}
 {bv bv':VS} {KK af:VP} {Z au:VQ} {s s₁:Shared} {Y aj:Fm}
theorem Dt{d:D}(h:Y[i]?=some (.KK d))(r:Rv):d6 (Y.set i<|.fz d) r=d6 Y r:=by cases r with
 |fz d=>rfl
 |KK d=>rfl
 |pl p=>cases p with
  |var j=>
   simp only[d6,yX];by_cases q:i=j
   .subst q;exact O (List.getElem?_set_self<|(List.getElem?_eq_some_iff.mp h).1)<|O h rfl
   .exact O (List.getElem?_set_ne q) rfl
theorem yE{r':Rv}(sx:Sx z)(h:ev c z Y=some (.ok r',aj))(r:Rv):d6 aj r=d6 Y r:=by cases sx with
 |lit _=>exact(wB h).2▸rfl
 |var _=>
  rcases qd h with⟨d,hd,q⟩|⟨d,hd,q⟩
  .exact Y2 (d6 · r) (Y4 q).2
  .exact O (Y4 q).2 (Dt hd r)
 |pl _=>exact(wB (AE h).2).2▸rfl
 |gl _=>exact aB (ba h) λd q=>(wB q.2).2▸rfl
theorem Qs{a:α}{e:Str}{f g:Fm}{p:Prop}(h:some ((Except.ok a:VW α),f)=some (.error e,g)):p:=nomatch h
theorem yF(sx:Sx z)(h:ev c z Y=some (.error nm,aj)):False:=by cases sx with
 |lit _=>exact Qs h
 |var _=>rcases qd h with⟨d,hd,q⟩|⟨d,hd,q⟩<;>exact mI (Y4 q).1
 |pl _=>exact Qs (AE h).2
 |gl _=>exact aB (ba h) λd q=>Qs q.2
structure Quiet(c:Cfg)(z:Ex):Prop where
 rv:∀{Y aj:Fm}{r':Rv},ev c z Y=some (.ok r',aj)-> ∀r,d6 aj r=d6 Y r
 ok:∀{Y aj:Fm}{nm:Str},ev c z Y=some (.error nm,aj)->False
theorem Sx.quiet(h:Sx z):Quiet c z:=⟨yE h,yF h⟩
theorem wW{a b:Ex}(h:Quiet c a)(k:Quiet c b):Quiet c (.idx a b):=by
 refine⟨fun {Y aj r'} e=>?_,fun {Y aj nm} e=>?_⟩
 .rcases aN e with⟨_,_,_,q⟩|⟨x,f,hm,e⟩
  .exact Kr (Y4 q).1
  rcases aN e with⟨_,_,_,q⟩|⟨x',f',jC,e⟩
  .exact Kr (Y4 q).1
  exact aB (ba e) λaa z=>aB (ba z.2) λaa z=>aB (zk z.2) λaa q=>O (Y4 q.2).2 λr=>(k.rv jC r).trans<|h.rv hm r
 .rcases aN e with⟨_,_,q,_⟩|⟨x,f,hm,e⟩
  .exact h.ok q
  rcases aN e with⟨_,_,q,_⟩|⟨x',f',jC,e⟩
  .exact k.ok q
  exact aB (ba e) λaa z=>aB (ba z.2) λaa z=>aB (zk z.2) λaa q=>mI (Y4 q.2).1
theorem uD{a:Expr}(h:il a=true):attributeBase a nm VN (eval a VN)=eval a VN:=by cases a<;>first|rfl|cases h
def Sd(A:Around)(nm:Str)(b:Bi) :Prop:= ∀(d e:D) (r:Rv),jm b [d,e]=some r→ ∃T id,PlainAttrs T∧PySem.Slot T nm id∧typeOf (.builtin id)=pure (.type "method_descriptor")∧(∀(Z:Addr→Prop) (s:Shared) (v:Value),cU s.heap Z v d→s.TypeIs v T∧ ∀a,v=.ref a→ ∃ob,s.heap.get? a=some ob∧ob.dict=none)∧
   ∀(Z:VQ)(s:Shared)(v v':Value)(E:VR),cU s.heap Z v d->cU s.heap Z v' e->wpAny (model prog w) A (call (.builtin id) [v,v']) (Op Z s r) E s
theorem GF{a k:Expr}{x:Ex}{b:Bi}(ha:il a=true)(hk:Quiet c z)(hl:(fC.endLine==pos.line)=true)
  (F:F2 (λe x=>CE V e x/\SE A c y (eval e VN) x) [a,k] [x,z]) (op:Sd A nm b):
  SE A c y (eval (.Call (.Attribute a nm fC) [k] [] pos) VN) (.bi b [x,z]):=by
 intro KK Z s Y LT h I;refine wpAny_Call_method1_late (uD ha) hl (by refine O (F.2.2.1.1.star VN []) ?_;rfl) ?_;refine dw (bv:=aY x) (bv':=aY x++(aY z++[])) (Oe (EJ h).2) .refl di (λo e=>F.1.2 KK Z s Y o e I) λr aj af au s₁ v bp h ax aW S R1=>?_;rcases aN h with⟨e,f,hm,_⟩|⟨r',av,hm,h2⟩
 .exact(hk.ok hm).elim
 .refine aB (ba h2) λX u=>er (yT u.1) λd e u'=>?_;obtain⟨q,hq,rfl⟩:=hH<|u'.2.2▸u.2;refine er (op d e q hq) λT id Q=>?_;have hd:=(hk.rv hm r).symm.trans u'.1;refine⟨T,id,Q.1,Q.2.1,Q.2.2.1,(Q.2.2.2.1 au s₁ v<|R1.dat ax hd).1,(Q.2.2.2.1 au s₁ v<|R1.dat ax hd).2,callWith_builtin (first:=[v]) rfl<|Z5<|Z4 ?_⟩;refine dw (bv:=aY z) h S (λi h=>eI i<|di i h) (λo e=>F.2.2.1.2 af au s₁ aj o e ax) λVx kA ao aK aC v' j7 h3 aF aO S' R'=>?_;rw[hm]at j7;have w:=wB j7;obtain rfl:=w.1;obtain rfl:=w.2;exact spliced_nil<|YS (Q.2.2.2.2 aK aC v v' _ ((aO.rv ax (dG bp (λi hi hj=>F.2.1 i hi<|di i hj)) R1).dat aF u'.1)<|R'.dat aF u'.2.1) (λv s' p=>p.post aF S') λaa ai x=>x
theorem wI:Sd A "count" .count:=by
 intro d e r h;cases d<;>first|exact am h|skip
 cases e<;>first|exact am h|skip
 refine aB (Z9 h) λbs q=>?_;refine O q.2.symm ?_;have hb:=q.1;refine ⟨"list","list.count",PySem.F.plainAttrs_list,PySem.F.slot_list_count,PySem.F.type_list_count,fun Z s v r=>?_,fun Z s v v' E r r'=>zf hb r r'⟩;obtain ⟨l,vs,n,rfl,hl,hn,R⟩:=r.list;exact ⟨⟨_,hl,rfl⟩,fun a e=>by cases e; exact ⟨_,hl,rfl⟩⟩
theorem wH(hu:A.units+66 < cLine) :Sd A "index" .index:=by intro d e r h;cases d with
 |list M=>refine ⟨"list","list.index",PySem.F.plainAttrs_list,PySem.F.slot_list_index,PySem.F.type_list_index,fun Z s v r=>?_,fun Z s v v' E r r'=>ze h r r' hu⟩;obtain ⟨l,vs,n,rfl,hl,hn,R⟩:=r.list;exact ⟨⟨_,hl,rfl⟩,fun a e=>by cases e; exact ⟨_,hl,rfl⟩⟩
 |_=>exact am h
theorem yK{a:Str}{k:Const}{d:D}{pa pk ps:Pos}(R:Rn A c n)(en:aJ A V VN y)(ha:V.isV a i)(hx:V.isV x j)(hk:cP k d)(hl:(ap.endLine==pos.line)=true):
  SE A c y (eval (.Call (.Attribute (.Name a pa) "index" ap) [.Subscript (.Name x px) (.Constant k kk pk) ps] [] pos) VN) (.bi .index [.var i,.idx (.var j) (.lit d)]):=
 GF (k:=.Subscript (.Name x px) (.Constant k kk pk) ps) rfl (wW (Sx.var j).quiet (Sx.lit d).quiet) hl ⟨⟨.var ha,jU en ha⟩,(λaa h=>by cases h),⟨(.idx (.var hx) (.lit hk) λaa h=>by cases h),yL (jU en hx) (yJ hk) (λaa h=>by cases h)<|CE.isPlain (.lit hk:CE V (.Constant k kk pk) (.lit d))⟩,(λaa h=>by cases h),trivial⟩ (wH R.cl)
theorem yM(R:Rn A c n):SE A c y (eval (.Dict [] [] pos) VN) (.bi .dict0 []):=by intro KK Z s Y LT h I;have h:DV Y (some<|.KK<|.dict [])=some LT:=(EJ h).2;obtain⟨q,hq,rfl⟩:=hH h;refine O (aE hq).symm ?_;refine wpAny_Dict_empty ?_;refine kF R.gd.g λo aa ai Q=>?_;have hs:=ZZ<|I.base _ _ Q.1;refine Op.post I .refl ⟨_,s.toks,rfl,pK _,.KK (w8 _)<|.dict (kvs:=[]) ⟨?_,.new _⟩ (Y7 _) .nil⟩;rw[beq_eq_false_iff_ne];intro e;rw[e]at hs;exact absurd hs (by decide)
theorem Dx{a b:Expr}{x z:Ex}{p p' pos gp:Pos}(R:Rn A c n)(en:aJ A V VN y)(hg:V.isG "dict")(NW:V.isG "zip")(F:F2 (fun e x=>CE V e x∧SE A c y (eval e VN) x) [a,b] [x,z]) :
  SE A c y (eval (.Call (.Name "dict" p) [.Call (.Name "zip" p') [a,b] [] gp] [] pos) VN) (.bi .dzip [x,z]):=by
 intro KK Z s Y LT h I;have hl:=EJ h;have fX:c.hd=false:=by cases q:c.hd with
  |false=>rfl
  |true=>exact absurd (by refine O q ?_;rfl) hl.1
 refine Call_Name (args:=[.Call (.Name "zip" p') [a,b] [] gp]) rfl (d9 R.gd en I hg (by decide) (by decide) boot_dict ?_);refine Y3 (first:=[]) rfl (Z5 (Z4 ?_));refine Call_Name (args:=[a,b]) rfl (d9 R.gd en I NW (by decide) (by decide) boot_zip ?_);refine Y3 (first:=[]) (by refine O (F.1.1.star VN [b]) (O (F.2.2.1.1.star VN []) ?_); rfl) (jO F ?_);refine km (bv:=bu [x,z]) hl.2 .refl (fun aa h=>h) (fun o e=>qv F KK Z s Y o e I) fun rs aj af au s₁ vs bp h ax aW S Rs=>?_;refine ak λG g=>?_;refine er (Ea (jE bp)) λr1 r2 Q=>?_;subst Q;refine er (Ea Rs.length.symm) λv1 v2 u=>?_;subst u;refine g ?_;refine aB (ba h) λX u=>er (yT u.1) λd e u'=>?_;obtain⟨q,hq,rfl⟩:=hH (u'.2.2▸u.2);exact YS (DT (R.big ax) (R.hh fX) hq (Rs.1.dat ax (oo u'.1)) (Rs.2.1.dat ax (oo u'.2.1)) ax.zlv) (λv aC p=>spliced_nil (YS p (λv s' p=>p.post ax S) λaa ai x=>x)) λaa ai x=>x
end
end Mv
end
variable {l:Mv.Loc}{as:VS}{y:Mv.Lay}{V:Mv.Sc}{J:Mv.Ins}
section
namespace Mv
open PySem PyProof.Rows
variable [Hp]
def cN(y:Lay)(KK:VP)(Z:VQ)(h₀ h:Heap)(b:Addr):Prop:=h₀.get? b=none/\ ¬y.wr KK b/\ ¬y.F b/\ ¬Z b/\ ∃o,h.get? b=some o
section
variable {y:Lay}{bv bv':VS}{KK ag uX:VP}{Z Z' n6:VQ}{s s' dQ:Shared}{h h' h₀:Heap}{Y dU:Fm}{Id:VQ}
theorem Step.loose(x:Step y bv KK Z s ag Z' s'){b:Addr}(l:cN y KK Z h₀ s.heap b):cN y ag Z' h₀ s'.heap b/\ ∀o,s.heap.get? b=some o->s'.heap.get? b=some o:=by
 refine ak λG g=>?_;obtain⟨n0,nw,nf,nz,o,ho⟩:=l;refine g ?_;refine⟨⟨n0,λw=>?_,nf,λz=>?_,x.ext.live b o ho⟩,λo e=>x.ext.keep b o e nw nf⟩
 .rcases n8 x.on b w with w|w
  .exact nw w
  .rw[w]at ho;exact am ho
 .rcases x.zn b z with z|z|z
  .exact nz z
  .exact nw (.inl z)
  .rw[z]at ho;exact am ho
theorem Inv.other(I:Inv y KK Z h Y)(hx:∀b,Id b-> ¬y.wr KK b/\ ¬y.F b/\ ¬Z b)(k:∀b o, ¬Id b->h.get? b=some o->h'.get? b=some o):Inv y KK Z h' Y where
 wf:=I.wf
 base:=λa o e=>k a o (λq=>(hx a q).2.2<|I.zb a o e)<|I.base a o e
 zb:=I.zb
 zo:=I.zo
 zl:=I.zl
 ol:=I.ol
 zL:=I.zL
 oL:=I.oL
 zF:=I.zF
 oF:=I.oF
 zlv:=λa z=>let ⟨o,e⟩:=I.zlv a z;⟨o,k a o (λq=>(hx a q).2.2 z) e⟩
 olv:=λa z=>let ⟨o,e⟩:=I.olv a z;⟨o,k a o (λq=>(hx a q).1<|.inl z) e⟩
 flv:=λa z=>let ⟨o,e,nr⟩:=I.flv a z;⟨o,k a o (λq=>(hx a q).2.1 z) e,nr⟩
 ok:=λi l e=>(I.ok i l e).keeps λo=>k _ o λq=>(hx _ q).1<|.inr<|.inr ⟨i,l,e,rfl⟩
 nsL:=let ⟨m,hn⟩:=I.nsL;⟨m,hn.at' λo=>k _ o λq=>(hx _ q).1<|.inr<|.inl rfl⟩
 sf:=λp e=>(I.sf p e).mono (λa o z=>k a o λq=>(hx a q).2.2 z) (λaa z=>z) λl v hl r=>r.keeps λo=>k _ o λq=>(hx _ q).1<|.inr<|.inr ⟨_,l,hl,rfl⟩
 at':=λi sl e n=>let ⟨l,v,hl,r,q⟩:=I.at' i sl e n;⟨l,v,hl,r.keeps λo=>k _ o λq=>(hx _ q).1<|.inr<|.inr ⟨i,l,hl,rfl⟩,
  q.mono (λa o z=>k a o λq=>(hx a q).2.2 z) (λaa z=>z) (λaa z=>z) λa o z=>k a o λq=>(hx a q).1<|.inl (by refine O z ?_;exact λn=>by cases n)⟩
theorem Step.other(x:Step y bv KK Z s ag Z' s')(hx:∀b,Id b->s.heap.get? b=none/\ ¬y.wr ag b)(k:∀b o, ¬Id b->s'.heap.get? b=some o->h'.get? b=some o):Step y bv KK Z s ag Z' {s' with heap:=h',toks:=tk}:=by
 have nx:∀a o,s.heap.get? a=some o-> ¬Id a:=λa o e q=>by rw[(hx a q).1]at e;exact am e
 refine⟨?_,⟨λa o e nw nf=>k a o (nx a o e)<|x.ext.keep a o e nw nf,λa o e=>?_,λa o f e=>?_⟩,x.zm,x.zn,x.on,λi l v n hl r=>(x.bind i l v n hl r).keeps λo=>k _ o λq=>(hx _ q).2<|.inr<|.inr ⟨i,l,hl,rfl⟩⟩
 .refine er x.sh λh C4 Q=>?_;subst Q;exact⟨_,_,rfl⟩
 .obtain⟨o',e'⟩:=x.ext.live a o e;exact⟨o',k a o' (nx a o e) e'⟩
 .exact aB (x.ext.fram a o f e) λsl e'=>(⟨sl,k a _ (nx a o e) e'⟩)
theorem cN.other{b:Addr}(l:cN y KK Z h₀ h b)(k:∃o,h'.get? b=some o):cN y KK Z h₀ h' b:=⟨l.1,l.2.1,l.2.2.1,l.2.2.2.1,k⟩
end
theorem ly{k:Nat}(h:k<=n):n+1-(k+1)<n+1-k:=Nat.sub_lt_sub_left (Nat.lt_succ_of_le h)<|lt_succ_self k
noncomputable def Hf:List String:=["enumerate","zip","dict_itemiterator","dict_reverseitemiterator","odict_iterator","itertools.zip_longest","itertools.pairwise"]
theorem Ua{s:Shared}{It:Addr}{v:Value}{T:String}{Q:Unit->Shared->Prop}(he:s.heap.get? It=some o)(hc:o.cls = .type T)(hT:Hf.contains T=false)(h:Q () s):wpAny (model prog w) A (letOwnedTupleGo g (.ref It) v) Q E s:=by
 have key:wpAny (model prog w) A (do
   let (.ref r,.ref a):=(Value.ref It,v)|return
   let o <- load r
   match o.cls,o.data with
   |.type n,.fields vs=>
    if ["enumerate","zip","dict_itemiterator","dict_reverseitemiterator","odict_iterator","itertools.zip_longest","itertools.pairwise"].contains n && vs[0]? == some (rawInt a) then
     rule "for.unpacks-the-owned-tuple"
     updateField r 0 .none
   |_,_=>pure ()) Q E s:=by
  cases v with
  |ref a=>refine YV<|wpAny_load he ?_;obtain⟨c,d,dt,sl⟩:=o;cases hc;cases dt with
   |fields vs=>dsimp only;exact O (YY (by refine O (show (["enumerate","zip","dict_itemiterator","dict_reverseitemiterator","odict_iterator","itertools.zip_longest","itertools.pairwise"].contains T)=false from hT) ?_; rw [Bool.false_and]; exact Z7)) (YR h)
   |_=>exact YR h
  |_=>exact YR h
 cases g with
 |Tuple es k p=>exact key
 |List es p=>exact key
 |_=>exact YR h
inductive vW where|one(v:Value)|two(x z:Value)
inductive uH(h:Heap)(Z:VQ):vW->D->Prop
 |one {v:Value} {d:D} (r:bE h Z v d):uH h Z (.one v) d
 |two {x z:Value} {a b:D} (r:bE h Z x a) (q:bE h Z z b):uH h Z (.two x z) (.tuple [a,b])
def vW.is(h h':Heap):vW->Value->Prop
 |.one u,v=>v=u
 |.two x z,v=> ∃T,v = .ref T/\h.get? T=none/\IsPair h' T x z
theorem uH.mono{m:vW}{d:D}(r:uH h Z m d)(k:∀a o,Z a->h.get? a=some o->h'.get? a=some o)(z:∀a,Z a->Z' a):uH h' Z' m d:=by cases r with
 |one r=>exact .one<|r.mono k z
 |two r q=>exact .two (r.mono k z)<|q.mono k z
def PQ(it:gM)(g:Expr):Prop:=it.pairs=true-> ∃es k p,g = .Tuple es k p
structure Wk(A:Around)(it:gM)(I:Addr)(ac:VX)(fp wr:List Addr)(P:Nat->vW->Prop)(St:Nat->Heap->Prop):Prop where
 sub:∀b∈wr,b∈fp
 frame:∀i h h',St i h->(∀b∈fp, ∀o,h.get? b=some o->h'.get? b=some o)->St i h'
 lv:∀i h,St i h-> ∀b∈fp, ∃o,h.get? b=some o
 item:∀i (s:Shared) (g:Expr) (Q:VR) (E:VR),PQ it g->i<ac.length->St i s.heap->
  (∀m v h' tk,P i m->m.is s.heap h' v->St (i+1) h'->(∀b o,b∉wr->s.heap.get? b=some o->h'.get? b=some o)->Q v {s with heap:=h',toks:=tk})->
  wpAny (model prog w) A (pyNext<|.ref I) (λo s₁=> ∃v,o=some v/\wpAny (model prog w) A (letOwnedTupleGo g (.ref I) v) (λaa aC=>Q v aC) E s₁) E s
 done:∀(s:Shared)(Q:Option Value->Shared->Prop)(E:VR),St ac.length s.heap->
  (∀h' tk,(∀b o,b∉wr->s.heap.get? b=some o->h'.get? b=some o)->Q none {s with heap:=h',toks:=tk})->wpAny (model prog w) A (pyNext<|.ref I) Q E s
 self:∀i (s:Shared) (Q:VR) (E:VR),St i s.heap->Q (.ref I) s->wpAny (model prog w) A (pyIter<|.ref I) Q E s
def zj(P:Nat->Value->Prop)(i:Nat)(m:vW):Prop:= ∃v,m = .one v/\P i v
theorem Wk.of{it:gM}{I:Addr}{ac:VX}{wr:List Addr}{P:Nat->Value->Prop}{St:Nat->Heap->Prop}(wk:Walks prog w A I fp wr ac.length P St)(lv:∀i h,St i h-> ∀b∈fp, ∃o,h.get? b=some o)
  (cls:∀i h,St i h-> ∃o T,h.get? I=some o/\o.cls = .type T/\Hf.contains T=false):Wk A it I ac fp wr (zj P) St where
 sub:=wk.sub
 frame:=wk.frame
 lv:=lv
 item:=λi s g Q E aa hi st hQ=>wk.item i s _ E hi st λv h' tk pv SO kp=>let ⟨_,_,e,c,n⟩:=cls _ _ SO;⟨v,rfl,Ua (s:= {s with heap:=h',toks:=tk}) e c n<|hQ (.one v) v h' tk ⟨v,rfl,pv⟩ rfl SO kp⟩
 done:=wk.done
 self:=wk.self
structure iS(y:Lay)(ac:VX)(fp wr:List Addr)(P:Nat->vW->Prop)(St:Nat->Heap->Prop)(h₀:Heap)(KK:VP)(Z:VQ)(h:Heap)(k:Nat):Prop where
 st:St k h
 fp:∀b∈fp,Z b\/cN y KK Z h₀ h b
 wr:∀b∈wr,cN y KK Z h₀ h b
 it:∀i m,i<ac.length->P i m-> ∃d,ac[i]?=some d/\uH h Z m d
section
variable {A:Around}{y:Lay}{bv bv':VS}{KK ag uX:VP}{Z Z' n6:VQ}{s s' dQ:Shared}{h h' h₀:Heap}{Y dU:Fm}{I:Addr}{ac:VX}{fp wr:List Addr}{P:Nat->vW->Prop}{St:Nat->Heap->Prop}{k:Nat}{it:gM}
theorem iS.step(W:Wk A it I ac fp wr P St)(x:iS y ac fp wr P St h₀ KK Z s.heap k)(i:Inv y KK Z s.heap Y)(S:Step y bv KK Z s ag Z' s'):iS y ac fp wr P St h₀ ag Z' s'.heap k where
 st:=W.frame k _ _ x.st λb hb o e=>(x.fp b hb).elim (λz=>i.keepZ S.ext b o z e) λl=>(S.loose l).2 o e
 fp:=λb hb=>(x.fp b hb).imp (S.zm b) λl=>(S.loose l).1
 wr:=λb hb=>(S.loose<|x.wr b hb).1
 it:=λj v hj p=>let ⟨d,e,r⟩:=x.it j v hj p;⟨d,e,r.mono (i.keepZ S.ext) S.zm⟩
theorem iS.other(W:Wk A it I ac fp wr P St)(x:iS y ac fp wr P St h₀ KK Z h k){Id:VQ}(hx:∀b,Id b-> ¬Z b/\b∉fp)(kp:∀b o, ¬Id b->h.get? b=some o->h'.get? b=some o):iS y ac fp wr P St h₀ KK Z h' k where
 st:=W.frame k _ _ x.st λb hb o e=>kp b o (λq=>(hx b q).2 hb) e
 fp:=λb hb=>(x.fp b hb).imp id λl=>l.other (let ⟨o,e⟩:=l.2.2.2.2;⟨o,kp b o (λq=>(hx b q).2 hb) e⟩)
 wr:=λb hb=>(x.wr b hb).other (let ⟨o,e⟩:=(x.wr b hb).2.2.2.2;⟨o,kp b o (λq=>(hx b q).2<|W.sub b hb) e⟩)
 it:=λj v hj p=>let ⟨d,e,r⟩:=x.it j v hj p;⟨d,e,r.mono (λa o z=>kp a o λq=>(hx a q).1 z) λaa z=>z⟩
theorem nq{d:D}{Q:Option Value->Shared->Prop}{Qv:VR}(W:Wk A it I ac fp wr P St)(gk:PQ it g)(x:iS y ac fp wr P St s.heap ag Z' s'.heap k)(i:Inv y ag Z' s'.heap Y)(S:Step y bv KK Z s ag Z' s')(hd:ac[k]?=some d)
  (hQ:∀v s₁,wpAny (model prog w) A (letOwnedTupleGo g (.ref I) v) (λaa aC=>Qv v aC) E s₁->Q (some v) s₁)
  (h:∀v dQ n6,(∀a,Z' a->n6 a)->bE dQ.heap n6 v d->iS y ac fp wr P St s.heap ag n6 dQ.heap (k+1)->Inv y ag n6 dQ.heap Y->Step y bv KK Z s ag n6 dQ->(∀b,cN y ag Z' s.heap s'.heap b->b∉wr->cN y ag n6 s.heap dQ.heap b)->(∀b o,b∉wr->s'.heap.get? b=some o->dQ.heap.get? b=some o)->Qv v dQ):
  wpAny (model prog w) A (pyNext<|.ref I) Q E s':=by
 have hk:=(List.getElem?_eq_some_iff.mp hd).1;refine YS (W.item k s' g Qv E gk hk x.st λm v h' tk hm hv NL kp=>?_) (λo s₁ p=>aB p λv p=>O p.1<|hQ v s₁ p.2) λaa ai x=>x;have hX:∀b,b∈wr-> ¬y.wr ag b/\ ¬y.F b/\ ¬Z' b:=λb hb=>⟨(x.wr b hb).2.1,(x.wr b hb).2.2.1,(x.wr b hb).2.2.2.1⟩
 have kz:∀a o,Z' a->s'.heap.get? a=some o->h'.get? a=some o:=λa o z e=>kp a o (λq=>(hX a q).2.2 z) e;have I1:=i.other hX kp;have S1:Step y bv KK Z s ag Z' {s' with heap:=h',toks:=tk}:=S.other (Id:=λb=>b∈wr) (λb hb=>⟨(x.wr b hb).1,(hX b hb).1⟩) kp;refine ak λG g1=>?_;obtain⟨d',e,r⟩:=x.it k m hk hm;rw[hd]at e;obtain rfl:=aE e;refine g1 ?_;have Tc:∀j m,j<ac.length->P j m-> ∃d,ac[j]?=some d/\uH h' Z' m d:=λj m hj p=>let ⟨d,e,r⟩:=x.it j m hj p;⟨d,e,r.mono kz λaa z=>z⟩
 have lv:=W.lv _ _ NL;cases r with
 |one r=>subst hv;exact h v {s' with heap:=h',toks:=tk} Z' (λaa z=>z) (r.mono kz λaa z=>z) ⟨NL,λb hb=>(x.fp b hb).imp id λl=>l.other<|lv b hb,λb hb=>(x.wr b hb).other<|lv b<|W.sub b hb,Tc⟩ I1 S1 (λb l n=>l.other (let ⟨o,e⟩:=l.2.2.2.2;⟨o,kp b o n e⟩)) kp
 |two ra rb=>
  obtain⟨T,rfl,nT,hT⟩:=hv;have lo:∀b,cN y ag Z' s.heap s'.heap b->(∃o,h'.get? b=some o)->cN y ag (λb=>Z' b\/b=T) s.heap h' b:=λb l q=>⟨l.1,l.2.1,l.2.2.1,λ(z:Z' b\/b=T)=>z.elim l.2.2.2.1 (λe=>by obtain⟨o,h⟩:=l.2.2.2.2;rw[e]at h;have h:=nT▸h;exact am h),q⟩
  exact h (.ref T) {s' with heap:=h',toks:=tk} (λb=>Z' b\/b=T) (λaa z=>.inl z) (.tuple (.inr rfl) hT (by show 2<=Sz;decide)<|.cons (ra.mono kz λaa z=>.inl z)<|.cons (rb.mono kz λaa z=>.inl z) .nil)
   ⟨NL,λb hb=>(x.fp b hb).imp .inl λl=>lo b l<|lv b hb,λb hb=>lo b (x.wr b hb)<|lv b<|W.sub b hb,λj m hj p=>let ⟨d,e,r⟩:=Tc j m hj p;⟨d,e,r.mono (λaa ai br e=>e) λaa z=>.inl z⟩⟩ (I1.addZ (i.fresh nT).1 (i.fresh nT).2.1 hT) (S1.addZ<|S.old _ nT) (λb l n=>lo b l (let ⟨o,e⟩:=l.2.2.2.2;⟨o,kp b o n e⟩)) kp
theorem nt{Q:Option Value->Shared->Prop}{E:VR}(W:Wk A it I ac fp wr P St)(x:iS y ac fp wr P St s.heap ag Z' s'.heap ac.length)(i:Inv y ag Z' s'.heap Y)(S:Step y bv KK Z s ag Z' s')
  (h:∀dQ,Inv y ag Z' dQ.heap Y->Step y bv KK Z s ag Z' dQ->(∀b o,b∉wr->s'.heap.get? b=some o->dQ.heap.get? b=some o)->(∃h' tk,dQ={s' with heap:=h',toks:=tk})->Q none dQ):
  wpAny (model prog w) A (pyNext<|.ref I) Q E s':=by
 refine W.done s' Q E x.st λh' tk kp=>?_;have hX:∀b,b∈wr-> ¬y.wr ag b/\ ¬y.F b/\ ¬Z' b:=λb hb=>⟨(x.wr b hb).2.1,(x.wr b hb).2.2.1,(x.wr b hb).2.2.2.1⟩
 exact h {s' with heap:=h',toks:=tk} (i.other hX kp) (S.other (Id:=λb=>b∈wr) (λb hb=>⟨(x.wr b hb).1,(hX b hb).1⟩) kp) kp ⟨_,_,rfl⟩
end
inductive Cq(A:Around)(y:Lay)(it:gM)(bv:VS)(KK:VP)(Z:VQ)(s:Shared)(LT:VW (List Rv)×Fm)(LW:Value)(s':Shared):Prop
 |mk (rs:List Rv) (X ac:VX) (ag:VP) (Z':VQ) (I:Addr) (fp wr:List Addr) (P:Nat->vW->Prop) (St:Nat->Heap->Prop):LT.1 = .ok rs->eC rs=some X->b4 it X=some ac->ac.length<=Sz->LW = .ref I->Inv y ag Z' s'.heap LT.2->Step y bv KK Z s ag Z' s'->Wk A it I ac fp wr P St->iS y ac fp wr P St s.heap ag Z' s'.heap 0->Cq A y it bv KK Z s LT LW s'
def SI(A:Around)(c:Cfg)(y:Lay)(m:Sem Value)(it:gM)(bG:List Ex):Prop:= ∀(KK:VP)(Z:VQ)(s:Shared)(Y:Fm)(LT:VW (List Rv)×Fm),jF c bG Y=some LT->
 (∀rs,LT.1 = .ok rs-> ∃X ac,eC rs=some X/\b4 it X=some ac)->c.hd=false->Inv y KK Z s.heap Y->
 wpAny (model prog w) A m (λx s₁=>wpAny (model prog w) A (pyIter x) (Cq A y it (bu bG) KK Z s LT) (aV y (bu bG) KK Z s LT) s₁) (aV y (bu bG) KK Z s LT) s
section
variable {A:Around}{c:Cfg}{n:Nat}{VN:Env}{V:Sc}{y:Lay}
 {bv bv':VS} {KK af:VP} {Z au:VQ} {s s₁:Shared} {Y aj:Fm}
theorem pd{x:Ex}{LT:VW (List Rv)×Fm}(h:jF c [x] Y=some LT):aT (ev c x Y) (λr Y=>some (.ok [r],Y))=some LT:=by
 rw[fg]at h;rcases he:ev c x Y with _|⟨_|r,f⟩
 .rw[he]at h;exact h
 .rw[he]at h;exact h
 .rw[he]at h;exact h
theorem sL{ac:VX}{P:Nat->Value->Prop}{St:Nat->Heap->Prop}(I:Inv y af au s₁.heap Y)(S:Step y bv KK Z s af au s₁)(he:(s₁.heap.push o).get? s₁.heap.objs.size=some o)(NL:St 0 (s₁.heap.push o))
  (UW:∀b∈fp,b=s₁.heap.objs.size\/au b) (fU:∀i v,i<ac.length->P i v-> ∃d,ac[i]?=some d/\bE s₁.heap au v d):
  iS y ac fp [s₁.heap.objs.size] (zj P) St s.heap af au (s₁.heap.push o) 0:=by
 have e:=w8 s₁.heap;have lo:cN y af au s.heap (s₁.heap.push o) s₁.heap.objs.size:=⟨S.old _ e,(I.fresh e).1,(I.fresh e).2.1,(I.fresh e).2.2,o,he⟩
 refine⟨NL,λb hb=>(UW b hb).elim (λq=>.inr<|q▸lo) .inl,λb hb=>?_,λi m hi p=>?_⟩
 .cases hb with
  |head=>exact lo
  |tail _ h=>cases h
 .obtain⟨v,p⟩:=p;obtain rfl:=p.1;obtain⟨d,Q⟩:=fU i v hi p.2;exact⟨d,Q.1,.one<|Q.2.mono (λa o aa=>pK _ a o) λaa z=>z⟩
theorem Iw{x:Ex}(R:Rn A c n)(H:SE A c y (eval e VN) x):SI A c y (eval e VN) .seq [x]:=by intro KK Z s Y LT h hv fX I;have h:=pd h;refine dw (bv:=aY x) (bv':=aY x++[]) h .refl di (λo e=>H KK Z s Y o e I) λr aj af au s₁ v bp h ax aW S R1=>?_;obtain rfl:=aE h;obtain⟨X,ac,jf,fU⟩:=hv _ rfl;simp only[gY,jV]at jf;cases hr:c5 r with
 |none=>rw[hr]at jf;exact am jf
 |some d=>
  rw[hr]at jf;obtain rfl:=aE jf;obtain⟨aK,aF,aO,eK⟩:=R1.freeze ax S hr;have sA:∀(o:Obj)(fp:List Addr)(P:Nat->Value->Prop)(St:Nat->Heap->Prop),ac.length<=Sz->Wk A .seq s₁.heap.objs.size ac fp [s₁.heap.objs.size] (zj P) St->iS y ac fp [s₁.heap.objs.size] (zj P) St s.heap af aK (s₁.heap.push o) 0->
    Cq A y .seq (aY x++[]) KK Z s (.ok [r],aj) (.ref s₁.heap.objs.size) {s₁ with heap:=s₁.heap.push o}:=λo fp P St hl W WA=>
   ⟨[r],[d],ac,af,aK,_,fp,_,zj P,St,rfl,by simp[gY,jV,hr],fU,hl,rfl,aF.grow<|pK o,aO.trans<|.grow (tk:=s₁.toks)<|pK o,W,WA⟩
  have lt:∀a o,s₁.heap.get? a=some o->a≠s₁.heap.objs.size:=λa o e q=>by rw[q,w8]at e;exact am e
  cases d with
  |list M=>
   cases fU;cases eK with
   |@list a vs _ m za hl hn Rs=>
   refine wpAny_pyIter_list hl.isList<|sA _ _ _ _ (by rw[<- Rs.length];exact hn) (.of ?_ (λi h st b hb=>?_) λi h st=>let ⟨o,e,hc,_⟩:=st.1;⟨o,_,e,hc,by decide⟩)<|sL (fp:=[s₁.heap.objs.size,a]) (P:=λi v=>vs.toArray[i]?=some v) (St:=λi h=>h.IsListIter s₁.heap.objs.size a i/\h.IsList a vs.toArray) aF aO (Z1 _ rfl) ⟨⟨_,Z1 _ rfl,rfl,rfl⟩,(IsL.push hl _).isList⟩ (λb hb=>?_) λi v aa p=>?_
   .have:=Walks.list (prog:=prog) (w:=w) (A:=A) (R.hh fX) s₁.heap.objs.size a (lt _ _ hl) vs.toArray
    rw[show vs.toArray.size=ac.length from(Zo ..).trans Rs.length]at this;exact this
   .rcases mem_cons.mp hb with rfl|hb
    .obtain⟨o,J⟩:=st.1;exact⟨o,J.1⟩
    .rw[Zr]at hb;subst hb;obtain⟨o,j⟩:=st.2;exact⟨o,j.1⟩
   .rcases mem_cons.mp hb with rfl|hb
    .exact .inl rfl
    .rw[Zr]at hb;subst hb;exact .inr za
   .exact Rs.getV (by simpa using p)
  |tuple M=>
   cases fU;cases eK with
   |@tuple a vs _ m za hl hn Rs=>
   refine wpAny_pyIter_tuple (⟨_,hl,rfl,_,rfl⟩)<|sA _ _ _ _ (by rw[<- Rs.length];exact hn) (.of ?_ (λi h st b hb=>?_) λi h st=>let ⟨o,e,hc,_⟩:=st.1;⟨o,_,e,hc,by decide⟩)<|sL (fp:=[s₁.heap.objs.size,a]) (P:=λi v=>vs.toArray[i]?=some v) (St:=λi h=>h.IsTupleIter s₁.heap.objs.size a i/\h.IsTuple a vs.toArray) aF aO (Z1 _ rfl) ⟨⟨_,Z1 _ rfl,rfl,rfl⟩,⟨_,pK _ _ _ hl,rfl,_,rfl⟩⟩ (λb hb=>?_) λi v aa p=>?_
   .have:=Walks.tuple (prog:=prog) (w:=w) (A:=A) (R.hh fX) s₁.heap.objs.size a (lt _ _ hl) vs.toArray
    rw[show vs.toArray.size=ac.length from(Zo ..).trans Rs.length]at this;exact this
   .rcases mem_cons.mp hb with rfl|hb
    .obtain⟨o,Q⟩:=st.1;exact⟨o,Q.1⟩
    .rw[Zr]at hb;subst hb;obtain⟨o,U⟩:=st.2;exact⟨o,U.1⟩
   .rcases mem_cons.mp hb with rfl|hb
    .exact .inl rfl
    .rw[Zr]at hb;subst hb;exact .inr za
   .exact Rs.getV (by simpa using p)
  |str x=>exact am fU
  |none=>exact am fU
  |bool b=>exact am fU
  |int i=>exact am fU
  |dict kvs=>exact am fU
theorem yG{e:Expr}{x:Ex}{p pos:Pos}(R:Rn A c n)(en:aJ A V VN y)(hg:V.isG "range")(hc:CE V e x)(H:SE A c y (eval e VN) x) :SI A c y (eval (.Call (.Name "range" p) [e] [] pos) VN) .range [x]:=by intro KK Z s Y LT h hv fX I;have h:=pd h;refine Call_Name (args:=[e]) rfl (d9 R.gd en I hg (by decide) (by decide) boot_range ?_);refine Y3 (first:=[]) (by refine O (hc.star VN []) ?_;rfl) ?_;refine O (hc.star VN []) ?_;refine Z5 (Z4 ?_);refine dw (bv:=aY x) (bv':=aY x++[]) h .refl di (λo e=>H KK Z s Y o e I) λr aj af au s₁ v bp h ax aW S R1=>?_;obtain rfl:=aE h;obtain⟨X,ac,jf,fU⟩:=hv _ rfl;simp only[gY,jV]at jf;cases hr:c5 r with
 |none=>rw[hr]at jf;exact am jf
 |some d=>rw[hr]at jf;obtain rfl:=aE jf;cases d with
  |int i=>
   obtain⟨t,rfl⟩:=(R1.dat ax (dN hr)).int;have Q8:=fU;have fU:(if -1000000000<=i/\i<=(Sz:Int) then some (gm 0 i.toNat) else none)=some _:=fU;have Mc:=AE fU;obtain rfl:=aE Mc.2;refine spliced_nil (call_range_1 ?_);have Tr:=Mc.1.1;refine wpAny_pyIter_range (IsRange.new ..) (small_one (Ln [] (.i (.g (.c 4611686018427387904)) (.c 0)) [] rfl) (Ln [] (.i (.p 1 (.c 0)) (.c 4611686018427387904)) [] rfl) (Li [i] (.i (.g (.c 4611686018427387904)) .x) [Gi (.g (.c 1000000000)) .x] rfl (Mc.1).1) (Li [i] (.i (.p 1 .x) (.c 4611686018427387904)) [Gi .x (.n (.c 16777216))] rfl (Mc.1).2)) ?_;let aC:Shared:= {s₁ with heap:=s₁.heap.push {cls:=.type "range",data:=.fields #[.int 0 s₁.toks,.int i t,.int 1 (s₁.toks+1)]},toks:=s₁.toks+1+1}
   have e0:Builtin.Range.rangeSize 0 i 1=(i.toNat:Int):=by rw[rangeSize_nat];simp
   have eZ:(gm 0 i.toNat).length=i.toNat:=by simp[gm]
   refine⟨[r],[.int i],gm 0 i.toNat,af,au,aC.heap.objs.size,_,_,_,_,rfl,by simp[gY,jV,hr],Q8,by refine O eZ ?_;exact Int.toNat_le.mpr Mc.1.2,rfl,(ax.grow<|pK _).grow<|pK _,(S.trans<|.grow<|pK _).trans<|.grow (tk:=aC.toks)<|pK _,.of (by refine O eZ ?_;exact(Walks.range (prog:=prog) (w:=w) (A:=A) (R.hh fX) aC.heap.objs.size 0 1 i.toNat)) (λj h st b hb=>?_) λi h st=>⟨_,_,st,rfl,by decide⟩,sL (s₁:=aC) (ax.grow<|pK _) (S.trans<|.grow<|pK _) (Z1 _ rfl) ?_ (λb hb=>.inl (by rwa [Zr]at hb)) λj v hj p=>?_⟩
   .rw[Zr]at hb;subst hb;exact⟨_,st⟩
   .exact O (show(0:Int)+((0:Nat):Int)*1=0 from by simp) (O (show((i.toNat:Int)-((0:Nat):Int))=Builtin.Range.rangeSize 0 i 1 from by refine O e0 ?_;simp)<|Z1 _ rfl)
   .obtain⟨u,rfl⟩:=p;rw[eZ]at hj;refine⟨.int<|0+(j:Int),by simp[gm,hj],?_⟩;rw[Int.mul_one];exact .int _ u
  |none=>exact am fU
  |bool b=>exact am fU
  |str b=>exact am fU
  |list b=>exact am fU
  |tuple b=>exact am fU
  |dict b=>exact am fU
end
section
variable {A:Around}{c:Cfg}{n:Nat}{VN:Env}{V:Sc}{y:Lay}
 {bv bv':VS} {KK af:VP} {Z au:VQ} {s s₁:Shared} {Y aj:Fm} {h h':Heap}
theorem CN:∀(M zs:VX)(i:Nat),i<(fq M zs).length-> ∃a b,(fq M zs)[i]?=some (.tuple [a,b])/\M[i]?=some a/\zs[i]?=some b:=by intro M;induction M with
 |nil=>intro zs i hi;cases hi
 |cons a M ih=>intro zs i hi;cases zs with
  |nil=>cases hi
  |cons b zs=>cases i with
   |zero=>exact⟨a,b,rfl,rfl,rfl⟩
   |succ i=>exact ih zs i<|lt_of_succ_lt_succ hi
theorem pW:∀(M zs:VX),(fq M zs).length<=M.length/\((fq M zs).length=M.length\/(fq M zs).length=zs.length):=by intro M;induction M with
 |nil=>intro zs;exact⟨Zh _,.inl rfl⟩
 |cons a M ih=>intro zs;cases zs with
  |nil=>exact⟨Y7 _,.inr rfl⟩
  |cons b zs=>exact⟨succ_le_succ (ih zs).1,(ih zs).2.imp (Y2 (· + 1))<|Y2 (· + 1)⟩
theorem pX{M zs:VX}{vs us:VU}(R:aq h Z vs M)(Q:aq h Z us zs)(hi:i<(fq M zs).length):∃a b x u,(fq M zs)[i]?=some (.tuple [a,b])/\vs[i]?=some x/\us[i]?=some u/\bE h Z x a/\bE h Z u b:=by refine er (CN M zs i hi) λa b q=>?_;obtain⟨x,hx,rx⟩:=R.get q.2.1;obtain⟨u,hu,ru⟩:=Q.get q.2.2;exact⟨a,b,x,u,q.1,hx,hu,rx,ru⟩
theorem yl{M zs:VX}{vs us:VU}(R:aq h Z vs M)(Q:aq h Z us zs):vs[(fq M zs).length]?=none\/us[(fq M zs).length]?=none:=
 (pW M zs).2.imp (λe=>by refine O e<|O R.length.symm ?_;exact getElem?_eq_none<|Zh _) λe=>by exact O e<|O Q.length.symm<|getElem?_eq_none<|Zh _
def Qf(vs us:VU)(i:Nat)(m:vW):Prop:= ∃x u,vs[i]?=some x/\us[i]?=some u/\m = .two x u
variable {z TI TO i1 i2 l1 l2:Addr}{vs us:VU}
inductive ZS(z TI TO i1 i2 l1 l2:Addr)(vs us:VU)(k:Nat)(h:Heap):Prop
 |mk (u v:Value):IsZip h z TI TO .none->IsPair h TI (.ref i1) (.ref i2)->IsPair h TO u v->r8 h i1 l1 vs.toArray k false->r8 h i2 l2 us.toArray k false->ZS z TI TO i1 i2 l1 l2 vs us k h
theorem MZ{P:VQ}{a b c d e f g:Addr}(h1:P a)(h2:P b)(h3:P c)(h4:P d)(h5:P e)(h6:P f)(h7:P g):∀x∈ [a,b,c,d,e,f,g],P x:=λx hx=>by simp only[Zv,Zp,or_false]at hx;rcases hx with rfl|rfl|rfl|rfl|rfl|rfl|rfl<;>assumption
theorem M0{P:VQ}{a b c d:Addr}(h1:P a)(h2:P b)(h3:P c)(h4:P d):∀x∈ [a,b,c,d],P x:=λx hx=>by simp only[Zv,Zp,or_false]at hx;rcases hx with rfl|rfl|rfl|rfl<;>assumption
theorem ZS.zst{k:Nat}(S:ZS z TI TO i1 i2 l1 l2 vs us k h):ms z TI TO i1 i2 l1 l2 vs.toArray us.toArray k false h:=by obtain⟨u,v,a,b,c,d,e⟩:=S;exact⟨_,_,u,v,a,.new,b,c,d,e⟩
theorem r8.live2{it l:Addr}{M:Array Value}{k:Nat}(x:r8 h it l M k false):(∃o,h.get? it=some o)/\ ∃o,h.get? l=some o:=by obtain⟨⟨o,e,_⟩,o',e',_⟩:=x;exact⟨⟨o,e⟩,o',e'⟩
theorem ZS.lv{k:Nat}(S:ZS z TI TO i1 i2 l1 l2 vs us k h):∀b∈ [z,TI,TO,i1,i2,l1,l2], ∃o,h.get? b=some o:=by obtain⟨u,v,a,b,c,d,e⟩:=S;exact MZ ⟨_,a⟩ ⟨_,b⟩ ⟨_,c⟩ d.live2.1 e.live2.1 d.live2.2 e.live2.2
theorem ZS.at{k:Nat}(S:ZS z TI TO i1 i2 l1 l2 vs us k h)(q:∀b∈ [z,TI,TO,i1,i2,l1,l2], ∀o,h.get? b=some o->h'.get? b=some o):ZS z TI TO i1 i2 l1 l2 vs us k h':=by obtain⟨u,v,a,b,c,d,e⟩:=S;exact⟨u,v,q _ (by simp) _ a,q _ (by simp) _ b,q _ (by simp) _ c,d.at (q _ (by simp))<|q _ (by simp),e.at (q _ (by simp))<|q _ (by simp)⟩
theorem HX{M zs:VX}(hh:A.handled=none)(D:ZipApart z TI TO i1 i2 l1 l2)(R:aq h Z vs M)(Q:aq h Z us zs):
  Wk A .zip z (fq M zs) [z,TI,TO,i1,i2,l1,l2] [z,TO,i1,i2] (Qf vs us) λk h=>ZS z TI TO i1 i2 l1 l2 vs us k h where
 sub:=M0 (by simp) (by simp) (by simp) (by simp)
 frame:=λi h h' S k=>S.at k
 lv:=λi h S=>S.lv
 item:=λi s g P E gk hi S hQ=>by
  refine kF (gk rfl) λes kk p j=>?_;subst j;refine pc (pX R Q hi) λa b x u U=>?_;have S0:=S.zst;obtain⟨_,_,hz,_⟩:=S;refine lu hh D S0 (by simpa using U.2.1) (by simpa using U.2.2.1) λh' T nT S' hT k zi=>⟨_,rfl,wpAny_letOwnedTupleGo_zip (s:= {s with heap:=h'}) (zi hz) λyf T5 sb=>?_⟩
  have ne:∀{b:Addr},b≠z-> ∀o,h'.get? b=some o->yf.get? b=some o:=λq o e=>sb.extBut _ o q e;have tz:T≠z:=λq=>by have nT:=q▸nT;have hz:s.heap.get? z=_:=hz;rw[nT]at hz;exact am hz
  obtain⟨_,_,_,_,_,_,t2,t3,t4,t5⟩:=S';exact hQ (.two x u) _ yf s.toks ⟨x,u,U.2.1,U.2.2.1,rfl⟩ ⟨_,rfl,nT,ne tz _ hT⟩ ⟨_,_,T5,ne D.TIz _ t2,ne D.TOz _ t3,t4.at (ne D.i1z)<|ne D.l1z,t5.at (ne D.i2z)<|ne D.l2z⟩
   λb o nb e=>ne (λq=>nb<|q▸ .head _) o<|k b o (λq=>nb<|q▸ .head _) (λq=>nb<|q▸ .tail _ (.head _)) (λq=>nb<|q▸ .tail _ (.tail _<|.head _)) (λq=>nb<|q▸ .tail _ (.tail _<|.tail _<|.head _)) e
 done:=λs P E S hQ=>mX hh D S.zst (by simpa using yl R Q) λh' k=>hQ h' s.toks λb o nb e=>k b o (λq=>nb<|q▸ .head _) (λq=>nb<|q▸ .tail _ (.head _)) (λq=>nb<|q▸ .tail _ (.tail _<|.head _)) (λq=>nb<|q▸ .tail _ (.tail _<|.tail _<|.head _)) e
 self:=λi s P E S hQ=>ym S.zst hQ
theorem Kn{LT:VW (List Rv)×Fm}(h:jF c M Y=some LT):aT (jF c M Y) (λrs Y=>some (.ok rs,Y))=some LT:=by refine O h ?_;obtain⟨_|_,_⟩:=LT<;>rfl
theorem Au{X ac:VX}(h:b4 .zip X=some ac):∃M zs,X=[.tuple M,.tuple zs]/\fq M zs=ac:=by cases X with
 |nil=>exact am h
 |cons d X=>cases d with
  |tuple M=>cases X with
   |nil=>exact am h
   |cons e X=>cases e with
    |tuple zs=>cases X with
     |nil=>exact⟨_,_,rfl,aE h⟩
     |cons=>exact am h
    |_=>exact am h
  |_=>exact am h
theorem Iv{e1 e2:Expr}{x1 x2:Ex}{p pos:Pos}(R:Rn A c n)(en:aJ A V VN y)(hg:V.isG "zip")(F:F2 (fun e x=>CE V e x∧SE A c y (eval e VN) x) [e1,e2] [x1,x2]) :
  SI A c y (eval (.Call (.Name "zip" p) [e1,e2] [] pos) VN) .zip [x1,x2]:=by
 intro KK Z s Y LT h hv fX I;have h:=Kn h;refine Call_Name (args:=[e1,e2]) rfl<|d9 R.gd en I hg (by decide) (by decide) boot_zip ?_;refine Y3 (first:=[]) (by refine O (F.1.1.star VN [e2])<|O (F.2.2.1.1.star VN []) ?_;rfl)<|jO F ?_;refine km (bv:=bu [x1,x2]) h .refl (λaa h=>h) (λo e=>qv F KK Z s Y o e I) λrs aj af au s₁ vs bp h ax aW S Rs=>?_;obtain rfl:=aE h;refine ak λG g=>?_;refine er (hv _ rfl) λX ac U=>?_;obtain⟨M,zs,rfl,rfl⟩:=Au U.2;have RR:=Rs.repAll U.1;refine g ?_;cases RR with|@cons v _ _ _ r1 RR=>
 cases RR with|@cons v' _ _ _ r2 RR=>
 cases RR with|nil=>
 refine ak λG g=>?_;obtain⟨l1,v1,_,rfl,t1,n1,R1,z1⟩:=cU.tuple<|.inl r1;obtain⟨l2,v2,_,rfl,t2,n2,R2,z2⟩:=cU.tuple<|.inl r2;refine g ?_;refine BZ (b:=false) (M:=v1.toArray) (ys:=v2.toArray) ⟨_,t1,rfl,_,rfl⟩ ⟨_,t2,rfl,_,rfl⟩ λh' S' iz k=>ym (s:= {s₁ with heap:=h'}) S' ?_;have nn:∀j,s₁.heap.get? (s₁.heap.objs.size+j)=none:=λj=>Heap.get?_none_of_le<|Zl _ _;have lo:∀{b},s₁.heap.get? b=none->(∃o,h'.get? b=some o)->cN y af au s.heap h' b:=λe q=>⟨S.old _ e,(ax.fresh e).1,(ax.fresh e).2.1,(ax.fresh e).2.2,q⟩
 obtain⟨f0,f1,u,v,_,_,a3,a4,a5,a6⟩:=S';refine⟨rs,_,fq M zs,af,au,_,_,_,_,_,rfl,U.1,rfl,Zg (pW M zs).1 (by refine O R1.length.symm ?_;exact n1),rfl,ax.grow k,S.trans<|.grow (tk:=s₁.toks) k,HX (R.hh fX) (zipApart_new (ZZ t1)<|ZZ t2) R1 R2,⟨⟨u,v,iz,a3,a4,a5,a6⟩,MZ (.inr<|lo (nn 4) ⟨_,iz⟩) (.inr<|lo (nn 2) ⟨_,a3⟩) (.inr<|lo (nn 3) ⟨_,a4⟩) (.inr<|lo (nn 0) a5.live2.1) (.inr<|lo (nn 1) a6.live2.1) (.inl z1)<|.inl z2,M0 (lo (nn 4) ⟨_,iz⟩) (lo (nn 3) ⟨_,a4⟩) (lo (nn 0) a5.live2.1)<|lo (nn 1) a6.live2.1,λi m hi p=>?_⟩⟩;refine er p λx u p=>?_;obtain rfl:=p.2.2;refine pc (pX R1 R2 hi) λa b x' u' Q=>?_;have e:=Q.1;have ex:=Q.2.1;have eu:=Q.2.2.1;have ra:=Q.2.2.2.1;have rb:=Q.2.2.2.2;rw[p.1]at ex;refine O (aE ex) ?_;rw[p.2.1]at eu;refine O (aE eu) ?_;exact⟨_,e,.two (ra.mono (λa o aa=>k a o) λaa z=>z)<|rb.mono (λa o aa=>k a o) λaa z=>z⟩
theorem Bq:∀(M:VX)(k i:Nat),(jH k M)[i]?=(M[i]?).map λd=>.tuple [.int (k+i:Nat),d]:=by intro M;induction M with
 |nil=>intro k i;rfl
 |cons a M ih=>intro k i;cases i with
  |zero=>rfl
  |succ i=>refine(ih (k+1) i).trans ?_;refine O (show k+1+i=k+(i+1) from Nat.succ_add_eq_add_succ k i) ?_;rfl
theorem iE:∀(M:VX)(k:Nat),(jH k M).length=M.length:=by intro M;induction M with
 |nil=>intro k;rfl
 |cons a M ih=>intro k;exact Y2 (· + 1)<|ih<|k+1
def Vk(vs:VU)(i:Nat)(m:vW):Prop:= ∃t x,vs[i]?=some x/\m = .two (.int i t) x
inductive ES(e it l:Addr)(vs:VU)(k:Nat)(h:Heap):Prop
 |mk (old:Value):IsEnum h e it k old->h.IsListIter it l k->h.IsList l vs.toArray->ES e it l vs k h
variable {e it l:Addr}
theorem M5{P:VQ}{a b c:Addr}(h1:P a)(h2:P b)(h3:P c):∀x∈ [a,b,c],P x:=λx hx=>by simp only[Zv,Zp,or_false]at hx;rcases hx with rfl|rfl|rfl<;>assumption
theorem M6{P:VQ}{b:Addr}(h1:P a)(h2:P b):∀x∈ [a,b],P x:=λx hx=>by simp only[Zv,Zp,or_false]at hx;rcases hx with rfl|rfl<;>assumption
theorem CR{M:VX}(hh:A.handled=none)(Tw:e≠it)(sw:l≠e)(JW:l≠it)(R:vs.length=M.length):
  Wk A .enum e (jH 0 M) [e,it,l] [e,it] (Vk vs) λk h=>ES e it l vs k h where
 sub:=M6 (by simp) (by simp)
 frame:=λi h h' S k=>by obtain⟨old,a,b,c⟩:=S;exact⟨old,k _ (by simp) _ a,b.at<|k _ (by simp),c.at<|k _ (by simp)⟩
 lv:=λi h S=>by obtain⟨old,a,⟨o,b,_⟩,⟨o',c,_⟩⟩:=S;exact M5 ⟨_,a⟩ ⟨o,b⟩ ⟨o',c⟩
 item:=λi s g P E gk hi S hQ=>by
  refine kF (gk rfl) λes kk p Q=>?_;subst Q;obtain⟨old,a,b,c⟩:=S;rw[iE]at hi;have hi:=R.symm▸hi;have hx:vs.toArray[i]?=some vs[i]:=by simp[hi]
  refine wpAny_pyNext_enum_item a b c hx Tw λh' ho fU hT hsz hk=>⟨_,rfl,wpAny_letOwnedTupleGo_enum ho λyf he sb=>?_⟩
  have ne:∀{b:Addr},b≠e-> ∀o,h'.get? b=some o->yf.get? b=some o:=λq o e=>sb.extBut _ o q e;exact hQ (.two (.int i s.toks) vs[i]) _ yf (s.toks+1) ⟨_,_,ZK hi,rfl⟩ ⟨_,rfl,w8 _,ne (Nat.ne_of_gt<|ZZ a) _ hT⟩ ⟨_,he,fU.at<|ne Tw.symm,c.at λo e=>ne sw o<|hk l o sw JW e⟩
   λb o nb e=>ne (λq=>nb<|q▸ .head _) o<|hk b o (λq=>nb<|q▸ .head _) (λq=>nb<|q▸ .tail _ (.head _)) e
 done:=λs P E S hQ=>by obtain⟨old,a,b,c⟩:=S;rw[iE,<- R]at a b;exact wpAny_pyNext_enum_end hh a b c (by simp) λh' k=>hQ h' s.toks λb o nb e=>k b o (λq=>nb<|q▸ .tail _ (.head _)) e
 self:=λi s P E S hQ=>by obtain⟨old,a,_⟩:=S;exact wpAny_pyIter_enum a hQ
theorem Dr{e:Expr}{x:Ex}{p pos:Pos}(R:Rn A c n)(en:aJ A V VN y)(hg:V.isG "enumerate")(hc:CE V e x)(H:SE A c y (eval e VN) x) :SI A c y (eval (.Call (.Name "enumerate" p) [e] [] pos) VN) .enum [x]:=by intro KK Z s Y LT h hv fX I;have h:=pd h;refine Call_Name (args:=[e]) rfl (d9 R.gd en I hg (by decide) (by decide) boot_enumerate ?_);refine Y3 (first:=[]) (by refine O (hc.star VN []) ?_;rfl) ?_;refine O (hc.star VN []) ?_;refine Z5 (Z4 ?_);refine dw (bv:=aY x) (bv':=aY x++[]) h .refl di (λo e=>H KK Z s Y o e I) λr aj af au s₁ v bp h ax aW S R1=>?_;obtain rfl:=aE h;obtain⟨X,ac,jf,fU⟩:=hv _ rfl;simp only[gY,jV]at jf;cases hr:c5 r with
 |none=>rw[hr]at jf;exact am jf
 |some d=>rw[hr]at jf;obtain rfl:=aE jf;cases d with
  |list M=>
   refine O (aE fU) ?_;obtain⟨aK,aF,aO,eK⟩:=R1.freeze ax S hr;cases eK with
   |@list l vs _ m za hl hn Rs=>
   refine spliced_nil<|call_enumerate_1 hl λh' he rf hz k=>wpAny_pyIter_enum (s:= {s₁ with heap:=h'}) he ?_;have nn:∀j,s₁.heap.get? (s₁.heap.objs.size+j)=none:=λj=>Heap.get?_none_of_le<|Zl _ _;have lo:∀{b},s₁.heap.get? b=none->(∃o,h'.get? b=some o)->cN y af aK s.heap h' b:=λe q=>⟨aO.old _ e,(aF.fresh e).1,(aF.fresh e).2.1,(aF.fresh e).2.2,q⟩
   have d2:=lo (nn 0) (let ⟨o,e,_⟩:=rf;⟨o,e⟩);refine⟨[r],[.list M],jH 0 M,af,aK,_,_,_,_,_,rfl,by simp[gY,jV,hr],rfl,by rw[iE];refine O Rs.length.symm ?_;exact hn,rfl,aF.grow k,aO.trans<|.grow (tk:=s₁.toks) k,CR (R.hh fX) (Nat.ne_of_gt<|lt_succ_self _) (Zc<|Nat.lt_succ_of_lt<|ZZ hl) (Zc<|ZZ hl) Rs.length,⟨⟨_,he,rf,⟨_,k _ _ hl,rfl,_,rfl⟩⟩,M5 (.inr<|lo (nn 1) ⟨_,he⟩) (.inr d2)<|.inl za,M6 (lo (nn 1) ⟨_,he⟩) d2,λi m hi p=>?_⟩⟩;refine er p λt x p=>?_;obtain rfl:=p.2;rw[iE]at hi;obtain⟨x',mL,rx⟩:=Rs.get<|ZK hi;rw[p.1]at mL;refine O (aE mL) ?_;refine⟨_,(Bq M 0 i).trans (by refine O (ZK hi) ?_;rfl),.two ?_<|rx.mono (λa o aa=>k a o) λaa z=>z⟩;rw[Y8];exact .int _ t
  |_=>exact am fU
end
end Mv
end
variable {is:List Int}
section
set_option backward.match.sparseCases false
namespace Mv
open PySem PyProof.Rows
variable [Hp]
noncomputable def LS(VN:Env)(po:Pos):List (Option Expr)->VV->List (Sem Value×Sem Value)
 |some k::ks,v::vs=>(eval k VN,do let x <- eval v VN;standAt po;pure x)::LS VN po ks vs
 |_,_=>[]
theorem ny(VN:Env)(po:Pos):∀{kL:List (Option Expr)}{ks:VT}(dh:VV),KS kL ks->((evalEachOpt kL VN).zip ((evalEach dh VN).map λv=>do let x <- v;standAt po;pure x)=(LS VN po kL dh).map λp=>(some p.1,p.2))/\((LS VN po kL dh).length=min ks.length dh.length):=by intro kL ks dh h;induction h generalizing dh with
 |nil=>exact⟨rfl,by cases dh<;>exact(Nat.zero_min _).symm⟩
 |@cons k kk p es ks t ih=>cases dh with
  |nil=>exact⟨rfl,(Nat.min_zero _).symm⟩
  |cons v dh=>exact⟨Y2 (_ :: ·) (ih dh).1,(Y2 (· + 1) (ih dh).2).trans (Nat.add_min_add_right _ _ 1).symm⟩
section
variable {A:Around}{c:Cfg}{n:Nat}{VN:Env}{V:Sc}{y:Lay}
 {bv bv':VS} {KK af:VP} {Z au:VQ} {s s₁:Shared} {Y aj:Fm}
def Pm(prog:Program)(w:World)(y:Lay)(bv:VS)(KK:VP)(Z:VQ)(s:Shared)(ks:VT)(LT:VW (List Rv)×Fm)(PD:List (Value×Value))(s':Shared):Prop:=
 ∃vs,pR y bv KK Z s LT vs s'/\Carries (strKind prog w) PD (ks.zip vs)
theorem uW{po:Pos}{ks:VT}(H:KS kL ks):∀{es:VV}{M:List Ex},F2 (λe x=>CE V e x/\SE A c y (eval e VN) x) es M->ks.length=M.length-> ∀(KK:VP)(Z:VQ)(s:Shared)(Y:Fm)(LT:VW (List Rv)×Fm),jF c M Y=some LT->Inv y KK Z s.heap Y->
  wpAny (model prog w) A (evalPairs<|LS VN po kL es) (Pm prog w y (bu M) KK Z s ks LT) (aV y (bu M) KK Z s LT) s:=by
 induction H with
 |nil=>intro es M F hl;cases M with
  |cons=>exact nomatch hl
  |nil=>cases es with
   |cons=>exact F.elim
   |nil=>intro KK Z s Y LT h I;exact O (aE h).symm<|evalPairs_nil ⟨[],⟨[],KK,Z,rfl,I,.refl,trivial⟩,trivial⟩
 |@cons k kk kp kL ks t ih=>intro es M F hl;cases M with
  |nil=>exact nomatch hl
  |cons x M=>cases es with
   |nil=>exact F.elim
   |cons e es=>
    intro KK Z s Y LT h I;rw[fg]at h;refine evalPairs_cons<|wpAny_Constant_str (k:=kk) (pos:=kp) ?_;refine YV<|dw (s₁:= {s with toks:=s.toks+1}) (bv:=aY x) (bv':=aY x++bu M) h (aP .refl) di (λo e=>F.1.2 KK Z {s with toks:=s.toks+1} Y o e I) λr aj af au s₁ v bp h ax aW S R=>YV<|wpAny_standAt<|YR ?_;refine ak λG1 g1=>?_;refine aB (R.frz ax<|aW.sub (bv':=aY x++bu M) di) λaK Q=>?_;have aF:=Q.1;have aO:=Q.2.1;have eK:=Q.2.2.1;have i5:=(aP (tk:=s.toks+1) .refl).trans aO;have ap:∀i∈gq (frz r),i∉bu M:=by rw[lK];exact dG bp F.2.1
    rcases aN h with⟨e',f,hm,rfl⟩|⟨rs,f,hm,h⟩
    .refine g1 ?_;refine YS (ih F.2.2 (Y9 hl) af aK s₁ aj _ hm aF) (λvs s' p=>?_) λe s' p=>p.up eI i5;obtain⟨_,⟨_,_,_,q,_⟩,_⟩:=p;exact mI q
    .refine g1 ?_;refine YS (ih F.2.2 (Y9 hl) af aK s₁ aj _ hm aF) (λvs s' p=>?_) λe s' p=>p.elim;refine ak λG g=>?_;obtain⟨GA,⟨LQ,ag,Z',q,I',S',R'⟩,C⟩:=p;obtain rfl:=jk q;exact g<|O (aE h).symm<|⟨v::GA,⟨r::rs,ag,Z',rfl,I',i5.trans<|S'.sub eI,S'.rv aF ap eK,R'.since i5.old⟩,strKind_is prog w k _,rfl,C⟩
theorem Lz{P:Expr->Ex->Prop}:∀{es:VV}{M:List Ex},F2 P es M->es.length=M.length:=by intro x1 x2 F;induction x1 generalizing x2 with
 |nil=>cases x2 with
  |nil=>exact rfl
  |cons x5 x6=>exact F.elim
 |cons x3 x4 ih=>cases x2 with
  |nil=>exact F.elim
  |cons x7 x8=>exact Y2 (· + 1)<|ih F.2.2
theorem wq:∀{ks:VT}{vs:VU}{X:VX},PZ ks->aq h Z vs X->aS h Z (ks.zip vs) (vF ks X):=by intro ks;induction ks with
 |nil=>intro _ _ _ _;exact .nil
 |cons k ks ih=>intro vs X ok R;cases R with
  |nil=>exact .nil
  |cons r R=>exact .cons (ok k<|.head _).1 (ok k<|.head _).2 r<|ih (λx hx=>ok x<|.tail _ hx) R
theorem Km:∀{M:List Ex}{Y dU Rw:Fm}{rs:List Rv}{X:VX},M.all Ex.noPl=true->jF c M Y=some (.ok rs,dU)->ju Rw rs=some X->eC rs=some X:=by intro M;induction M with
 |nil=>intro _ _ _ _ _ _ h hd;obtain⟨rfl,_⟩:=wB h;exact hd
 |cons x M ih=>
  intro Y dU Rw rs X hp h hd;rw[all_cons,Z8]at hp;rw[fg]at h;rcases aN h with⟨_,_,_,q⟩|⟨r,f,hm,h⟩
  .cases q
  rcases aN h with⟨_,_,_,q⟩|⟨LQ,f',jC,h⟩
  .cases q
  obtain⟨rfl,_⟩:=wB h;rw[yS]at hd;refine O gY ?_;rcases ub hm with⟨d,e⟩|⟨p,_,rfl⟩
  .have hd:=(dN e)▸hd;refine O e ?_;cases h2:ju Rw LQ with
   |none=>rw[h2]at hd;exact am hd
   |some iH=>rw[h2]at hd;exact O (ih hp.2 jC h2) hd
  .cases hp.1
theorem Dy{ks:VT}{dh:VV}{dp:Pos}(R:Rn A c n)(hk:KS kL ks)(F:F2 (λe x=>CE V e x/\SE A c y (eval e VN) x) dh M)(nd:ks.Nodup/\PZ ks)(hl:ks.length=M.length)(Rq:ks≠ []/\ks.length<=15)(hp:M.all Ex.noPl=true):
  SE A c y (eval (.Dict kL dh dp) VN) (.bi (.disp ks) M):=by
 intro KK Z s Y LT h I;rw[Og,show(Bi.disp ks).loops=false from rfl,Bool.and_false,YY Z7]at h;have Tq:(LS VN dp kL dh).length=ks.length:=by exact O (ny VN dp dh hk).2<|O (Lz F)<|O hl.symm<|min_self _
 have de:LS VN dp kL dh≠ []:=λq=>Rq.1 (List.eq_nil_of_length_eq_zero (by refine O Tq.symm (O q ?_);rfl));refine wpAny_Dict_pairs (knd:=strKind prog w) (ny VN dp dh hk).1 de (by refine O Tq ?_; exact Rq.2) ?_;have S8:∀b o,s.heap.get? b=some o→(s.heap.push {cls:=.type "dict",data:=.dict #[]}).get? b=some o:=fun b o e=>pK _ b o e;have I0:Inv y KK Z (s.heap.push {cls:=.type "dict",data:=.dict #[]}) Y:=I.grow S8;have S0:Step y (bu M) KK Z s KK Z {s with heap:=s.heap.push {cls:=.type "dict",data:=.dict #[]}}:=.grow (tk:=s.toks) S8;have nD:=w8 s.heap;have LD:cN y KK Z s.heap (s.heap.push {cls:=.type "dict",data:=.dict #[]}) s.heap.objs.size:=⟨nD,(I.fresh nD).1,(I.fresh nD).2.1,(I.fresh nD).2.2,_,Z1 _ rfl⟩
 rcases aN h with⟨e',f,hm,rfl⟩|⟨rs,f,hm,h⟩
 .refine YS (uW (po:=dp) hk F hl KK Z {s with heap:=s.heap.push {cls:=.type "dict",data:=.dict #[]}} Y _ hm I0) (fun PD s' p=>?_) fun e s' p=>p.up (fun aa h=>h) S0;obtain⟨_,⟨_,_,_,q,_⟩,_⟩:=p;exact mI q
 .refine YS (uW (po:=dp) hk F hl KK Z {s with heap:=s.heap.push {cls:=.type "dict",data:=.dict #[]}} Y _ hm I0) (fun PD s₁ p=>?_) fun e s' p=>p.elim;obtain⟨vs,⟨LQ,af,au,q,ax,aW,R'⟩,C⟩:=p;obtain rfl:=jk q;dsimp only at ax;have U:=aW.loose LD;refine⟨ks.zip vs,C,(let ⟨o,es,ep,e,r⟩:=Heap.DictOf.new (knd:=strKind prog w) s.heap;⟨o,es,ep,U.2 o e,r⟩),λh' hD sb=>?_⟩;have hX:∀b,b=s.heap.objs.size-> ¬y.wr af b/\ ¬y.F b/\ ¬au b:=λb q=>by subst q;exact⟨U.1.2.1,U.1.2.2.1,U.1.2.2.2.1⟩
  have kp:∀b o, ¬b=s.heap.objs.size->s₁.heap.get? b=some o->h'.get? b=some o:=λb o q e=>sb.extBut b o q e;have aO:Step y (bu M) KK Z s af au {s₁ with heap:=h',toks:=s₁.toks+PD.length}:=(S0.trans aW).other (Id:=λb=>b=s.heap.objs.size) (λb q=>⟨q▸nD,(hX b q).1⟩) kp;cases jf:ju f rs with
  |none=>rw[jf]at h;exact am h
  |some X=>
   have h:=jf▸h;have h:DV f (if ks.length=X.length then some (.KK<|.dict<|vF ks X) else none)=some LT:=h;obtain⟨q,hq,rfl⟩:=hH h;obtain⟨_,rfl⟩:=ed hq;have hn:((ks.zip vs).map (·.1)).Nodup:=by exact O (List.map_fst_zip (by refine O hl<|O R'.length.symm<|O (jE hm) ?_;exact Zh _)) nd.1
   rw[merged_nil_of_nodup _ hn]at hD;exact⟨_,af,au,rfl,ax.other hX kp,aO,_,rfl,nD,U.1.2.1,U.1.2.2.1,U.1.2.2.2.1,.dict ⟨oi<|R.big I,hD⟩ (by rw[length_zip];exact Zg (min_le_left _ _)<|Zg Rq.2 (by decide))<|wq nd.2<|(R'.repAll<|Km hp hm jf).mono (λb o z e=>kp b o (λq=>(hX b q).2.2 z) e) λaa z=>z⟩
theorem F2.two{P:Expr->Ex->Prop}{a b:Expr}{IO:List Ex->Prop}(F:F2 P [a,b] M)(k:∀x z,F2 P [a,b] [x,z]->IO [x,z]):IO M:=by
 rcases M with _|⟨x,_|⟨z,_|_⟩⟩
 .exact F.elim
 .exact F.2.2.elim
 .exact k x z F
 .exact F.2.2.2.2.elim
theorem MA{b:Bi}(R:Rn A c n)(en:aJ A V VN y)(h:BX V e b es)(F:F2 (λe x=>CE V e x/\SE A c y (eval e VN) x) es M):SE A c y (eval e VN) (.bi b M):=
 BX.casesOn (motive:=λe b es aa=>F2 (λe x=>CE V e x/\SE A c y (eval e VN) x) es M->SE A c y (eval e VN) (.bi b M)) h
  (λha hk hl F=>F2.two (IO:=λM=>SE A c y _<|.bi .count M) F λaa ai F=>GF ha (F.2.2.1.1.sx hk).quiet hl F wI)
  (λhg NW F=>F2.two (IO:=λM=>SE A c y _<|.bi .dzip M) F λaa ai F=>Dx R en hg NW F)
  (λF=>by cases M with
   |nil=>exact yM R
   |cons=>exact F.elim) F
end
section
variable {A:Around}{E:VR}{VN:Env}{V:Sc}{y:Lay}
 {bv bv':VS} {KK ag af:VP} {Z Z' au:VQ} {s s' s₁:Shared} {Y aj:Fm} {h h':Heap}
structure CJ(y:Lay)(i:Nat)(l:Loc)(v:Value)(h h':Heap):Prop where
 keep:∀a o,a≠l.addr->h.get? a=some o->h'.get? a=some o
 live:∃o,h'.get? l.addr=some o
 rd:eU h' l v
 oth:∀j k w,j≠i->y.loc j=some k->eU h k w->eU h' k w
 ok:∀j k,y.loc j=some k->qD h' k
 ns:∃m,h'.Ns y.L m
 si:∀p,y.slf=some p->y.si≠i
theorem CJ.fz(p:CJ y i l v s.heap h')(I:Inv y KK Z s.heap Y)(hl:y.loc i=some l){d:D}(R:bE s.heap Z v d):Inv y KK Z h' (Y.set i<|.fz d):=I.setFz hl p.keep p.live p.rd p.oth p.ok p.ns p.si R
theorem CJ.step{v:Value}(p:CJ y i l v s.heap h')(hl:y.loc i=some l)(I:Inv y KK Z s.heap Y):Step y [i] KK Z s KK Z {s with heap:=h',toks:=tk} where
 sh:=⟨_,_,rfl⟩
 ext:=by
  have ne:∀a, ¬y.wr KK a->a≠l.addr:=λa nw q=>nw<|.inr<|.inr ⟨i,l,hl,q.symm⟩;refine⟨λa o e nw nf=>p.keep a o (ne a nw) e,λa o e=>?_,λa o f e=>⟨o.slots,p.keep a o (λq=>I.wf.nf i l hl<|q▸f) e⟩⟩;by_cases q:a=l.addr
  .exact q▸p.live
  .exact⟨o,p.keep a o q e⟩
 zm:=λaa z=>z
 zn:=λaa z=>.inl z
 on:=λaa ai e=>.inl e
 bind:=λj k w n hk r=>p.oth j k w (λq=>n (by refine O q ?_;exact mem_singleton.mpr rfl)) hk r
theorem CJ.owned(p:CJ y i l (.ref a) s.heap h')(I:Inv y KK Z s.heap Y)(hl:y.loc i=some l){d:D}(nw:¬y.wr KK a)(nf:¬y.F a)(nz:¬Z a)(W:cT s.heap Z a d):Inv y (addO KK a i) Z h' (Y.set i<|.KK d):=
 I.setOwn hl p.keep p.rd p.oth p.ok p.ns p.si nw nf nz W.live ⟨a,rfl,rfl,W⟩
theorem eN{v:Value}{Q:Unit->Shared->Prop}(en:aJ A V VN y)(hv:V.vars.lookup x=some i)(hf:VN.kindOf x≠some .free)(hl:y.loc i=some l)(I:Inv y KK Z s.heap Y)
  (h:∀h' tk,CJ y i l v s.heap h'->Q () {s with heap:=h',toks:=tk}):wpAny (model prog w) A (storeName VN x v) Q E s:=by
 refine ak λG3 g3=>?_;rcases en.var x i hv with⟨hk,e⟩|⟨hk|⟨hk,_⟩,c,hc,e⟩
 .refine g3 ?_;rw[hl]at e;obtain rfl:=aE e;obtain⟨m,hn⟩:=I.ok i _ hl;refine wpAny_storeName_local hk hn (λh' yc hs=>h h' _ ?_) (by refine O en.kind ?_;rfl);refine⟨λa o q e=>hs.extBut a o q e,let ⟨o,_,_,e,_⟩:=yc;⟨o,e⟩,⟨_,yc,by simp⟩,λj k w hj e6 r=>?_,λj k e6=>?_,?_,en.nsi x i hv⟩
  .by_cases q:k.addr=VN.locals
   .refine ak λG4 g4=>?_;obtain⟨x',e1,UE⟩:=(I.wf.apart j i k _ e6 hl hj q).dict';subst e1;refine aB r λm' r=>?_;have em:m' x'=m x':=by refine ak λG1 g1=>?_;refine kF r.1 λo es ep q0=>?_;have ho:=q0.1;have hd:=q0.2.1;have VD:=q0.2.2.1;have UZ:=q0.2.2.2;refine ak λG2 g2=>?_;obtain⟨o',Kq,Ks,lc,cQ,VC,UY⟩:=hn;rw[ho]at lc;obtain rfl:=aE lc;have cQ:=hd▸cQ;cases cQ;refine g2 ?_;refine g1 ?_;rw[<- UZ,UY]
    exact g4<|⟨_,yc,by show(if x'=x then some v else m x')=some w;exact O (YY UE)<|O em.symm<|O r.2 rfl⟩
   .exact r.keeps λo e=>hs.extBut _ o q e
  .by_cases q:k.addr=VN.locals
   .cases k with
    |dict a z=>cases q;exact⟨_,yc⟩
    |cell a=>
     refine ak λG5 g5=>?_;by_cases GW:j=i
     .refine g5 ?_;subst GW;have e6:=hl▸e6;cases e6
     .refine g5 ?_;refine aB ((I.wf.apart j i _ _ e6 hl GW q).dict') λaa J=>?_;have u:=J.1;cases u
    |attr a ns z=>
     by_cases GW:j=i
     .subst GW;have e6:=hl▸e6;cases e6
     .refine aB ((I.wf.apart j i _ _ e6 hl GW q).dict') λaa U=>?_;have u:=U.1;cases u
   .exact(I.ok j k e6).keeps λo e=>hs.extBut _ o q e
  .by_cases q:y.L=VN.locals
   .exact⟨_,q▸yc⟩
   .exact aB I.nsL λm hm=>(⟨m,hm.sameBut hs q⟩)
 .refine g3 ?_;rw[hl]at e;obtain rfl:=aE e;obtain⟨Qd,NK⟩:=I.ok i _ hl;refine wpAny_storeName_cell en.kind hk hc NK λh' ri hs=>?_;have P:CJ y i (.cell c) v s.heap h':=by
   refine⟨λa o q e=>hs.extBut a o q e,let ⟨o,e,_⟩:=ri;⟨o,e⟩,ri,λj k w hj e6 r=>?_,λj k e6=>?_,?_,en.nsi x i hv⟩
   .by_cases q:k.addr=c
    .exact(I.wf.apart j i k _ e6 hl hj q).noCell
    .exact r.keeps λo e=>hs.extBut _ o q e
   .by_cases q:k.addr=c
    .refine ak λG g=>?_;by_cases GW:j=i
     .refine g ?_;subst GW;rw[hl]at e6;exact O (aE e6).symm<|⟨_,ri⟩
     .exact g ((I.wf.apart j i _ _ e6 hl GW q).noCell)
    .exact(I.ok j k e6).keeps λo e=>hs.extBut _ o q e
   .obtain⟨m,hm⟩:=I.nsL;exact⟨m,hm.sameBut hs λq=>I.wf.cl i c hl q.symm⟩
  exact h h' s.toks P
 .exact g3 (absurd hk hf)
noncomputable def Lay.puts(y:Lay)(C:Addr)(i:Nat)(vs:VT):Lay:= {y with loc:=λj=>if i<=j then(vs[j-i]?).map (Loc.dict C) else y.loc j}
section
variable {C:Addr}{i j k:Nat}{vs:VT}{v:Str}{l:Loc}{a:Addr}
theorem oC(h:vs[k]?=some v):(y.puts C i vs).loc (i+k)=some (.dict C v):=by
 show(if i<=i+k then(vs[i+k-i]?).map (Loc.dict C) else _)=_
 refine O (YX<|Zl i k) ?_;rw[Zm];refine O h ?_;rfl
theorem c9(hi:∀j l,y.loc j=some l->j<i)(h:y.loc j=some l):(y.puts C i vs).loc j=some l:=(YY<|Nat.not_le.mpr<|hi j l h).trans h
theorem bC(h:(y.puts C i vs).loc j=some l):(∃v,i<=j/\vs[j-i]?=some v/\l = .dict C v)\/(j<i/\y.loc j=some l):=by
 have h:(if i<=j then(vs[j-i]?).map (Loc.dict C) else y.loc j)=some l:=h;by_cases q:i<=j
 .have h:=(YX q)▸h;cases e:vs[j-i]? with
  |none=>have h:=e▸h;exact am h
  |some v=>rw[e]at h;exact .inl ⟨v,q,rfl,(Y5 h).symm⟩
 .have h:=(YY q)▸h;exact .inr ⟨Nat.not_le.mp q,h⟩
theorem sY(h:(y.puts C i vs).wr KK a):y.wr KK a\/a=C:=by
 rcases h with h|h|⟨j,k,hk,rfl⟩
 .exact .inl (.inl h)
 .exact .inl (.inr<|.inl h)
 .rcases bC hk with⟨_,_,_,rfl⟩|⟨_,hk⟩
  .exact .inr rfl
  .exact .inl (.inr<|.inr ⟨j,k,hk,rfl⟩)
theorem sI(hi:∀j l,y.loc j=some l->j<i)(h:y.wr KK a):(y.puts C i vs).wr KK a:=by
 rcases h with h|h|⟨j,k,hk,rfl⟩
 .exact .inl h
 .exact .inr (.inl h)
 .exact .inr (.inr ⟨j,k,c9 hi hk,rfl⟩)
theorem Inv.put(I:Inv y KK Z h Y)(hi:∀j l,y.loc j=some l->j<i)(nd:vs.Nodup)(nw:¬y.wr KK C)(nf:¬y.F C)(nz:¬Z C)(hn:h.Ns C m):Inv (y.puts C i vs) KK Z h Y:=by
 have nC:∀j k,y.loc j=some k->k.addr≠C:=λj k e q=>nw<|.inr<|.inr ⟨j,k,e,q⟩;refine⟨⟨λj j' k k' hk e6 de hq=>?_,λj k hk=>?_,I.wf.nL,λj a hk=>?_,λj a ns x hk=>?_⟩,I.base,I.zb,I.zo,λj k hk=>?_,λj k hk=>?_,I.zL,I.oL,I.zF,I.oF,I.zlv,I.olv,I.flv,λj k hk=>?_,I.nsL,λp e=>⟨(I.sf p e).z,(I.sf p e).ob,let ⟨l,hl,r⟩:=(I.sf p e).rd;⟨l,c9 hi hl,r⟩⟩,λj sl e n=>?_⟩
 .rcases bC hk with⟨v,l1,e1,rfl⟩|⟨hj,hk⟩<;>rcases bC e6 with⟨v',l2,e2,rfl⟩|⟨VE,e6⟩
  .refine .dict C v v' rfl rfl λq=>de ?_;subst q;have:=(List.getElem_inj (h₀:=(List.getElem?_eq_some_iff.mp e1).1) (h₁:=(List.getElem?_eq_some_iff.mp e2).1) nd).mp<|(List.getElem?_eq_some_iff.mp e1).2.trans (List.getElem?_eq_some_iff.mp e2).2.symm;exact(Le [j,j',j-i,j'-i,i] (.e .x .y) [Gp .z .u,Gq (.a .z<|.v 4) .x,Gp (.a .u<|.v 4) .y] rfl this (Za (n:=j) (m:=i) l1)<|Za (n:=j') (m:=i) l2)
  .exact absurd hq.symm (nC _ _ e6)
  .exact absurd hq (nC _ _ (by assumption))
  .exact I.wf.apart j j' k k' hk e6 de hq
 .rcases bC hk with⟨_,_,_,rfl⟩|⟨hj,hk⟩
  .exact nf
  .exact I.wf.nf j k hk
 .rcases bC hk with⟨_,_,_,q⟩|⟨hj,hk⟩
  .cases q
  .exact I.wf.cl j a hk
 .rcases bC hk with⟨_,_,_,q⟩|⟨hj,hk⟩
  .cases q
  .exact I.wf.al j a ns x hk
 .rcases bC hk with⟨_,_,_,rfl⟩|⟨hj,hk⟩
  .exact nz
  .exact I.zl j k hk
 .rcases bC hk with⟨_,_,_,rfl⟩|⟨hj,hk⟩
  .show KK C=none
   cases q:KK C with
   |none=>rfl
   |some z=>exact absurd (.inl (by refine O q ?_;exact λn=>by cases n)) nw
  .exact I.ol j k hk
 .rcases bC hk with⟨_,_,_,rfl⟩|⟨hj,hk⟩
  .exact⟨m,hn⟩
  .exact I.ok j k hk
 .obtain⟨l,v,hl,r1,r⟩:=I.at' j sl e n;exact⟨l,v,c9 hi hl,r1,r⟩
theorem Inv.unput(I:Inv (y.puts C i vs) KK Z h Y)(wf:y.Wf)(hi:∀j l,y.loc j=some l->j<i)(hs:∀p,y.slf=some p-> ∃l,y.loc y.si=some l)(hf:∀j,i<=j->j<i+vs.length-> ∀sl,Y[j]?=some sl->sl = .no):Inv y KK Z h Y where
 wf:=wf
 base:=I.base
 zb:=I.zb
 zo:=I.zo
 zl:=λj k hk=>I.zl j k<|c9 hi hk
 ol:=λj k hk=>I.ol j k<|c9 hi hk
 zL:=I.zL
 oL:=I.oL
 zF:=I.zF
 oF:=I.oF
 zlv:=I.zlv
 olv:=I.olv
 flv:=I.flv
 ok:=λj k hk=>I.ok j k<|c9 hi hk
 nsL:=I.nsL
 sf:=λp e=>⟨(I.sf p e).z,(I.sf p e).ob,by refine ak λG1 g1=>?_;refine aB (hs p e) λl hl=>?_;obtain⟨l',cC,r⟩:=(I.sf p e).rd;have cC:(y.puts C i vs).loc y.si=some l':=cC;rw[c9 hi hl]at cC;obtain rfl:=aE cC;refine g1 ?_;exact⟨l,hl,r⟩⟩
 at':=λj sl e n=>by
  refine ak λG g=>?_;obtain⟨k,v,hk,r1,r⟩:=I.at' j sl e n;rcases bC hk with⟨_,hj,q,rfl⟩|⟨hj,hk⟩
  .exact g (absurd (hf j hj (Ln [j,i,vs.length,j-i] (.w (.p 1 .x)<|.a .y .z) [Gl (.p 1 .u) .z,Gf (.a .u .y) .x] rfl (List.getElem?_eq_some_iff.mp q).1<|Za (n:=j) (m:=i) hj) sl e) n)
  .exact g (⟨k,v,hk,r1,r⟩)
theorem Step.put(S:Step y bv KK Z s ag Z' s')(hi:∀j l,y.loc j=some l->j<i)(hC:s.heap.get? C=none):Step (y.puts C i vs) bv KK Z s ag Z' s' where
 sh:=S.sh
 ext:=⟨λa o e nw nf=>S.ext.keep a o e (λq=>nw<|sI hi q) nf,S.ext.live,S.ext.fram⟩
 zm:=S.zm
 zn:=S.zn
 on:=S.on
 bind:=λj k v n hk r=>by
  rcases bC hk with⟨_,_,_,rfl⟩|⟨hj,hk⟩
  .obtain⟨m,⟨o,_,_,e,_⟩,_⟩:=r;rw[hC]at e;exact am e
  .exact S.bind j k v n hk r
theorem Step.unput(S:Step (y.puts C i vs) bv KK Z s ag Z' s')(hi:∀j l,y.loc j=some l->j<i)(hC:s.heap.get? C=none):Step y bv KK Z s ag Z' s' where
 sh:=S.sh
 ext:=⟨λa o e nw nf=>S.ext.keep a o e (λq=>(sY q).elim nw λq=>by rw[q,hC]at e;exact am e) nf,S.ext.live,S.ext.fram⟩
 zm:=S.zm
 zn:=S.zn
 on:=S.on
 bind:=λj k v n hk r=>S.bind j k v n (c9 hi hk) r
end
end
noncomputable def xK(VN:Env):List (Str×NameKind)->List (Str×Addr)->List (Str×Addr)
 |[],VM=>VM
 |(n,k)::r,VM=>if k == .free then xK VN r ((n,(VN.cells.lookup n).getD 0)::VM) else xK VN r VM
theorem nR{x:Str×NameKind}{r:List (Str×NameKind)}{VM:List (Str×Addr)}:xK VN (x::r) VM=if x.2 == .free then xK VN r ((x.1,(VN.cells.lookup x.1).getD 0)::VM) else xK VN r VM:=rfl
theorem kP(h:∀x∈scope.names,x.2 = .free-> ∃c,VN.cells.lookup x.1=some c):closureFor scope VN=pure (xK VN scope.names []):=by
 simp only[closureFor]
 suffices H:∀(l:List (Str×NameKind))(VM:List (Str×Addr)),(∀x∈l,x.2 = .free-> ∃c,VN.cells.lookup x.1=some c)->(forIn l VM λx r=>match x with
   |(name,kind)=>if (kind==NameKind.free)=true then do let a <- cellOf VN name;pure (ForInStep.yield ((name,a)::r)) else pure (ForInStep.yield r))=(pure (xK VN l VM):Sem (List<|Str×Addr)) by
  refine O (H _ _ h) ?_;rfl
 intro l;induction l with
 |nil=>intro VM _;rfl
 |cons x l ih=>intro VM hx;rw[forIn_cons];cases hk:x.2==NameKind.free with
  |false=>
   dsimp only;refine O hk<|O (YY Z7) ?_;refine Eq.trans ?_<|(ih VM<|eA hx).trans ?_
   .rfl
   .rw[nR,hk];rfl
  |true=>
   dsimp only;refine O hk<|O (YX rfl) ?_;refine aB (hx (x.1,x.2) Zt (by simpa using hk)) λc hc=>?_;have:cellOf VN x.1=pure c:=by unfold cellOf;exact O hc rfl
   refine O this ?_;refine Eq.trans ?_<|(ih ((x.1,c)::VM)<|eA hx).trans ?_
   .rfl
   .rw[nR,hk,hc];rfl
set_option tactic.hygienic true in
theorem KO:∀(l:List (Str×NameKind))(VM:List (Str×Addr)),(∀x∈l,x.2 = .free-> ∃c,VN.cells.lookup x.1=some c)->(∀p∈VM,VN.cells.lookup p.1=some p.2)-> ∀p∈xK VN l VM,VN.cells.lookup p.1=some p.2:=by intro l VM hx h;induction l generalizing VM h with
 |nil=>exact h
 |cons p0 l ih=>
  have mL:∀x∈l,x.2 = .free-> ∃c,VN.cells.lookup x.1=some c:=(eA hx)
  rw[nR];split
  .rename_i hk;refine ih _ mL λp hp=>?_;rcases mem_cons.mp hp with rfl|hp
   .refine aB (hx (p0.1,p0.2) Zt (by simpa using hk)) λc hc=>?_;simp[hc]
   .exact h p hp
  .exact ih VM mL h
theorem FS:∀(l:List (Str×NameKind))(VM:List (Str×Addr)), ∀p∈VM,p∈xK VN l VM:=by intro l VM p h;induction l generalizing VM p h with
 |nil=>exact h
 |cons p0 l ih=>
  rw[nR];split
  .exact ih _ p (Zu _ h)
  .exact ih _ p h
theorem FR:∀(l:List (Str×NameKind))(VM:List (Str×Addr))(x:Str×NameKind),x∈l->x.2 = .free-> ∃c,(x.1,c)∈xK VN l VM:=by intro l VM x h hx;induction l generalizing VM x hx with
 |nil=>cases h
 |cons p0 l ih=>
  obtain⟨n,k⟩:=p0;rcases mem_cons.mp h with rfl|h
  .have hk:k = .free:=hx;subst hk;exact⟨(VN.cells.lookup n).getD 0,by rw[nR];exact FS l _ _ Zt⟩
  .rw[nR];split
   .exact ih _ x h hx
   .exact ih _ x h hx
theorem iW:∀{l:List (Str×α)}{x:Str}{c:α},(x,c)∈l-> ∃c',l.lookup x=some c'/\(x,c')∈l:=by intro l x c h;induction l generalizing x c with
 |nil=>cases h
 |cons p0 l ih=>refine O ZC ?_;cases hx:x==p0.1 with
  |true=>simp only[beq_iff_eq]at hx;subst hx;exact⟨p0.2,rfl,Zt⟩
  |false=>
   rcases mem_cons.mp h with q|h
   .cases q;simp at hx
   .exact aB (ih h) λc' Q=>(⟨c',Q.1,Zu _ Q.2⟩)
theorem mem_of_lookup:∀{l:List (Str×α)}{x:Str}{c:α},l.lookup x=some c->(x,c)∈l:=by intro l x c h;induction l generalizing x c with
 |nil=>exact am h
 |cons p0 l ih=>obtain⟨n,a⟩:=p0;rw[ZC]at h;cases hx:x==n with
  |true=>rw[hx]at h;refine O (aE h) ?_;simp only[beq_iff_eq]at hx;subst hx;exact Zt
  |false=>have h:=hx▸h;exact Zu _<|ih h
theorem bO{VN:Env}{k:NameKind}(hk:k≠ .free):∀{names:List (Str×NameKind)}{x:Str},names.lookup x=some k->
  (names.map λ(n,k)=>if (k==NameKind.free&&VN.scope.kind == .function&&VN.kindOf n==some .cell) then(n,NameKind.cell) else(n,k)).lookup x=some k
 |[],_,h=>by simp at h
 |(n,k')::r,x,h=>by
  show List.lookup x ((if (k'==NameKind.free&&VN.scope.kind == .function&&VN.kindOf n==some .cell)=true then(n,NameKind.cell) else(n,k'))::_)=_
  cases hx:x==n with
  |true=>
   simp only[ZC,hx]at h;cases h;have:(k==NameKind.free)=false:=by simpa using hk
   simp[ZC,hx,this]
  |false=>
   simp only[ZC,hx]at h;by_cases hc:(k'==NameKind.free&&VN.scope.kind == .function&&VN.kindOf n==some .cell)=true
   .rw[YX hc];simp only[ZC,hx];exact(@bO VN k hk r x) h
   .rw[YY hc];simp only[ZC,hx];exact(@bO VN k hk r x) h
theorem bX{VN:Env}:∀{names:List (Str×NameKind)}{x:Str},names.lookup x=some .free->
  (names.map λ(n,k)=>if (k==NameKind.free&&VN.scope.kind == .function&&VN.kindOf n==some .cell) then(n,NameKind.cell) else(n,k)).lookup x=some .free\/
  (names.map λ(n,k)=>if (k==NameKind.free&&VN.scope.kind == .function&&VN.kindOf n==some .cell) then(n,NameKind.cell) else(n,k)).lookup x=some .cell
 |[],_,h=>by simp at h
 |(n,k')::r,x,h=>by refine O Zz ?_;cases hx:x==n with
  |true=>
   simp only[ZC,hx]at h;refine O (aE h) ?_;by_cases hc:(NameKind.free==NameKind.free&&VN.scope.kind == .function&&VN.kindOf n==some .cell)=true
   .right;show List.lookup x ((if _ then _ else _)::_)=_;refine O (YX hc) ?_;simp only[ZC,hx]
   .left;show List.lookup x ((if _ then _ else _)::_)=_;refine O (YY hc) ?_;simp only[ZC,hx]
  |false=>
   simp only[ZC,hx]at h;show List.lookup x ((if _ then _ else _)::_)=_\/List.lookup x ((if _ then _ else _)::_)=_
   by_cases hc:(k'==NameKind.free&&VN.scope.kind == .function&&VN.kindOf n==some .cell)=true
   .refine O (YX hc) ?_;simp only[ZC,hx];exact(@bX VN r x) h
   .refine O (YY hc) ?_;simp only[ZC,hx];exact(@bX VN r x) h
theorem iX{p:Str×Nat->Bool}:∀{l:List (Str×Nat)}{x:Str}{i:Nat},(∀a b c,p (a,b)=p (a,c))->(l.filter p).lookup x=some i->l.lookup x=some i/\p (x,i)=true:=by intro l x i hp h;induction l generalizing x i hp with
 |nil=>exact am h
 |cons p0 l ih=>
  obtain⟨n,j⟩:=p0;refine O ZC ?_;by_cases q:p (n,j)=true
  .have h:=(List.filter_cons_of_pos q)▸h;rw[ZC]at h;cases hx:x==n with
   |true=>rw[hx]at h;refine O (aE h).symm ?_;simp only[beq_iff_eq]at hx;subst hx;exact⟨rfl,q⟩
   |false=>rw[hx]at h;exact ih hp h
  .rw[List.filter_cons_of_neg q]at h;obtain⟨h1,h2⟩:=ih hp h;cases hx:x==n with
   |true=>simp only[beq_iff_eq]at hx;subst hx;have h2:=(hp x i j)▸h2;exact absurd h2 q
   |false=>exact⟨h1,h2⟩
theorem lS{l r:List (Str×Nat)} :(l++r).lookup x=some i->l.lookup x=some i\/r.lookup x=some i:=by induction l with
 |nil=>exact .inr
 |cons p l ih=>intro h;rw[cons_append,ZC]at h;refine O ZC ?_;cases q:x==p.1 with
  |true=>rw[q]at h;exact .inl h
  |false=>rw[q]at h;exact ih h
theorem qO{l r:List (Str×Nat)} :l.lookup x=some i->(l++r).lookup x=some i:=by induction l with
 |nil=>intro h;exact am h
 |cons p l ih=>intro h;rw[ZC]at h;refine O cons_append<|O ZC ?_;cases q:x==p.1 with
  |true=>rw[q]at h;exact h
  |false=>rw[q]at h;exact ih h
theorem vZ:∀{vs:VT}{i k:Nat},vs.Nodup->vs[k]?=some x->(vs.zipIdx i).lookup x=some (i+k):=by intro vs i k nd h;induction vs generalizing i k with
 |nil=>exact am h
 |cons v vs ih=>cases k with
  |zero=>refine O (aE h) ?_;refine O zipIdx_cons ?_;refine O ZC ?_;rw[beq_self_eq_true];rfl
  |succ k=>rw[nodup_cons]at nd;refine O zipIdx_cons ?_;refine O ZC ?_;refine O (beq_eq_false_iff_ne.mpr λe=>nd.1 (e▸Zs (i:=k) h):(x==v)=false) ?_;rw[add_comm k 1,<- Nat.add_assoc];exact ih nd.2 h
theorem iV:∀{vs:VT}{i:Nat},(vs.zipIdx i).lookup x=some j-> ∃k,j=i+k/\vs[k]?=some x:=by intro vs i h;induction vs generalizing i with
 |nil=>exact am h
 |cons v vs ih=>rw[zipIdx_cons,ZC]at h;cases q:x==v with
  |true=>rw[q]at h;exact O (aE h)<|⟨0,rfl,by refine O (beq_iff_eq.mp q) ?_;rfl⟩
  |false=>rw[q]at h;exact aB (ih h) λk Q=>(⟨k+1,by exact(Le [j,i,k] (.e .x<|.a .y<|.p 1 .z) [Gp .x<|.a (.p 1 .y) .z] rfl Q.1),Q.2⟩)
theorem BQ{vs:VT}{C:Addr}(en:aJ A V VN y)(ok:ip scope V vs)(hi:V.hi<=i):
  closureFor scope VN=pure (xK VN scope.names [])/\aJ A (bM scope V vs i) (compEnvC scope (xK VN scope.names []) C VN) (y.puts C i vs):=by
 have cells:∀x∈scope.names,x.2 = .free-> ∃c,VN.cells.lookup x.1=some c:=λx hx hf=>by
  refine ak λG1 g1=>?_;obtain⟨h1,h0,⟨j,hj⟩,h3⟩:=ok.free x hx hf;rcases en.var x.1 j hj with⟨hk,_⟩|⟨_,c,hc,_⟩
  .refine g1 ?_;rcases en.cf x.1 h3 with q|q<;>(have q:=hk▸q;cases q)
  .refine g1 ?_;exact⟨c,hc⟩
 refine⟨kP cells,⟨en.stk,λj l hl=>?_,ok.kind,en.glob,en.blt,en.frame,en.top,λx j hx=>?_,λx hx=>?_,λx hx=>?_,λq=>absurd rfl q,λx j hx p e=>?_,λp e=>let ⟨l,hl⟩:=en.slo p e;⟨l,c9 (λj l h=>Zd (en.hi j l h) hi) hl⟩⟩⟩
 .show j<i+vs.length
  rcases bC hl with⟨v,h1,h2,_⟩|⟨h1,hl⟩
  .have u:=List.getElem?_eq_some_iff.mp h2;exact(Ln [j,i,vs.length,j-i] (.w (.p 1 .x)<|.a .y .z) [Gl (.p 1 .u) .z,Gf (.a .u .y) .x] rfl u.1<|Za (n:=j) (m:=i) h1)
  .exact Zd h1 (Zl _ _)
 .unfold bM at hx;rcases lS hx with hx|hx
  .refine aB (iV hx) λk z=>?_;exact O z.1<|.inl ⟨lookup_relabel_local<|ok.loc x<|Zs z.2,oC z.2⟩
  .-- one of the names around
   have Q:=iX (λaa ai br=>rfl) hx;have nH:scope.names.lookup x=some .free:=by simpa using Q.2
   right;refine ak λG g=>?_;rcases en.var x j Q.1 with⟨hk,_⟩|⟨_,c,hc,hl⟩
   .refine g ?_;rcases en.cf x (ok.free _ (mem_of_lookup nH) rfl).2.2.2 with q|q<;>(have q:=hk▸q;cases q)
   .refine g ?_;refine⟨?_,c,?_,?_⟩
    .rcases bX (VN:=VN) nH with q|q
     .exact .inr ⟨q,(ok.free _ (mem_of_lookup nH) rfl).2.1⟩
     .exact .inl q
    .refine aB (FR (VN:=VN) scope.names [] _ (mem_of_lookup nH) rfl) λc1 hm=>?_;refine aB (iW hm) λc2 Z=>?_;have:=KO scope.names [] cells (λp hp=>by cases hp) _ Z.2;have:VN.cells.lookup x=some c2:=this;rw[hc]at this;exact O (aE this) Z.1
    .exact c9 (λj l h=>Zd (en.hi j l h) hi) hl
 .exact bO (by intro q;cases q) hx
 .rcases hx with hx|hx
  .exact .inl (bO (by intro q;cases q) hx)
  .exact(bX hx).symm
 .refine aB (en.slo p e) λl hl=>?_;unfold bM at hx;rcases lS hx with hx|hx
  .exact aB (iV hx) λk z=>(λq=>absurd (show y.si<i from(Zd (en.hi _ l hl) hi))<|Nat.not_lt.mpr (by refine O (show y.si=j from q)<|O z.1 ?_;exact Zl _ _))
  .exact en.nsi x j (iX (λaa ai br=>rfl) hx).1 p e
section
variable {A:Around}{E:VR}{VN:Env}{V:Sc}{y:Lay}{KK:VP}{Z:VQ}{s:Shared}{Y:Fm}
theorem O9:tb.an.length<=sizeLine:=by rw[sizeLine_eq];exact(by decide:4<=16777216)
theorem m3{a:Str}{v:Value}{glob:VX}{p:Addr×Obj}{Q:Unit->Shared->Prop}(gd:Gd glob)(J:kJ V VN y p dx)(hx:V.isA x a i)(hl:y.loc i=some l)(I:Inv y KK Z s.heap Y)
  (h:∀h' tk,CJ y i l v s.heap h'->Q () {s with heap:=h',toks:=tk}):wpAny (model prog w) A (setAttr (.ref p.1) a v) Q E s:=by
 refine ak λG g=>?_;obtain⟨c,C,rg,hC,J6⟩:=J.cls;refine kF (gd.pl c rg) λC' N mN u=>?_;have tT:=u.1;have P:=u.2.1;have jR:=u.2.2.1;have tT:=hC▸tT;cases tT;have sf:=I.sf p J.slf;obtain⟨ha,JW⟩:=J.an a i hx.at';rw[hl]at JW;obtain rfl:=aE JW;refine aB (I.ok i _ hl) λmA U=>?_;obtain⟨nm,q,bs,sn,sub,col,dd,k0,k1,k2,k3,k5,G9⟩:=(P.cls.keeps I.base).obj;have UF:p.1≠C:=λe=>by have:=sf.ob;rw[e,G9]at this;exact J.nc _ (Y2 Obj.data<|aE this).symm
 refine g ?_;refine store_attr PySem.F.store_object G9 (P.cls.keeps I.base).ns (P.quiet _<|Zx _ (by decide)) (jR a ha).1 (jR a ha).2 UF ⟨p.2,sf.ob,J6,J.nc,.inr ⟨dx,J.dic,J.ne,U.1⟩⟩ (λh' tk I' hk NN=>?_) U.2 O9;refine h h' tk ?_;refine ak λG2 g3=>?_;obtain⟨o1,g1,e1,e2,e3,e4⟩:=NN _ sf.ob;have Tn:h'.get? p.1=some p.2:=by refine O g1 ?_;obtain⟨_,⟨_,_,_,_⟩⟩:=p;subst e1;subst e2;subst e3;cases((e4 dx J.dic).trans J.dic.symm);rfl
 have kp:∀b o,b≠dx->s.1.get? b=some o->h'.get? b=some o:=λb o n e=>by
  by_cases q:b=p.1
  .subst q;rw[sf.ob]at e;refine O (aE e).symm ?_;exact Tn
  .exact hk b o q (λUm PR e0 e' q'=>by have e0:=sf.ob▸e0;obtain rfl:=aE e0;have e':=J.dic▸e';obtain rfl:=aE e';exact n q') e
 have PF:h'.Ns1 dx (λz=>if z=a then some v else mA z)/\Within (λz=>if z=a then some v else mA z) tb.an:=by
  refine⟨?_,λz hz=>?_⟩
  .refine aB I' λo I'=>?_;have ho:=I'.1;have r:=I'.2.2.2;rw[Tn]at ho;obtain rfl:=aE ho;rcases r with⟨r,_⟩|⟨d',cQ,_,r⟩
   .have r:=J.dic▸r;exact nomatch r
   .have cQ:=J.dic▸cQ;refine O (aE cQ) ?_;exact r
  .by_cases q:z=a
   .exact q▸ha
   .exact U.2 z λe=>hz (by show(if z=a then some v else mA z)=none;refine O (YY q) ?_;exact e)
 have key:∀j k,y.loc j=some k->j≠i->k.addr=dx-> ∃a',k = .attr dx tb.an a'/\a'≠a:=λj k hk hj q=>(I.wf.apart j i k _ hk hl hj q).attr';refine g3 ?_;refine⟨kp,?_,⟨_,PF,YX rfl⟩,λj k w hj hk r=>?_,λj k hk=>?_,?_,λp' aa q=>?_⟩
 .obtain⟨⟨o,_,_,e,_⟩,_⟩:=PF;exact⟨o,e⟩
 .by_cases q:k.addr=dx
  .obtain⟨a',rfl,n⟩:=key j k hk hj q;obtain⟨m',⟨hm,_⟩,e⟩:=r;have em:m' a'=mA a':=by refine kF hm λo es ep hm=>?_;have ho:=hm.1;have hd:=hm.2.1;have hf:=hm.2.2.2.2;refine ak λG1 g2=>?_;obtain⟨o',Kq,Ks,lc,cQ,_,_,J0⟩:=U.1;rw[ho]at lc;obtain rfl:=aE lc;have cQ:=hd▸cQ;injection cQ with cQ;subst cQ;refine g2 ?_;rw[<- hf,J0]
   exact⟨_,PF,by show(if a'=a then some v else mA a')=some w;refine O (YY n)<|O em.symm ?_;exact e⟩
  .exact r.keeps λo e=>kp _ o q e
 .by_cases q:k.addr=dx
  .obtain⟨a',rfl⟩:=J.zd j k hk q;exact⟨_,PF⟩
  .exact(I.ok j k hk).keeps λo e=>kp _ o q e
 .obtain⟨m,hn⟩:=I.nsL;exact⟨m,hn.at' λo e=>kp _ o (λq=>I.wf.al i _ _ _ hl q.symm) e⟩
 .have:=J.ls;rw[q]at this;have this:=hl▸this;exact nomatch this
end
section
variable {A:Around}{c:Cfg}{n:Nat}{VN:Env}{V:Sc}{y:Lay}
 {bv bv':VS} {KK af:VP} {Z au:VQ} {s s₁:Shared} {Y aj:Fm}
def Pn(y:Lay)(bv:VS)(KK:VP)(Z:VQ)(s:Shared)(LT:VW Bool×Fm)(b:Bool)(s':Shared):Prop:=
 ∃ag Z',LT.1 = .ok b/\Inv y ag Z' s'.heap LT.2/\Step y bv KK Z s ag Z' s'
theorem qi{Q:Bool->Shared->Prop} :∀{ed:VV},Q false s->
  wpAny (model prog w) A (forIn ed false λc r=>if r=true then do let ok <- isTrue c VN (eval c VN);pure (ForInStep.yield ok) else pure (ForInStep.yield r)) Q E s:=by
 intro es h;induction es generalizing h with
 |nil=>exact YR h
 |cons e es ih=>simp only[forIn_cons,false_eq_true,if_false];exact YV<|YR<|ih h
theorem kH:∀{ed:VV}{aw:List Ex},F2 (λe x=>ST A c y (isTrue e VN<|eval e VN) x) ed aw-> ∀(KK:VP)(Z:VQ)(s:Shared)(Y:Fm)(LT:VW Bool×Fm),df c aw Y=some LT->Inv y KK Z s.heap Y->
  wpAny (model prog w) A (forIn ed true λc r=>if r=true then do let ok <- isTrue c VN (eval c VN);pure (ForInStep.yield ok) else pure (ForInStep.yield r)) (Pn y (bu aw) KK Z s LT) (aV y (bu aw) KK Z s LT) s:=by
 intro es M F;induction es generalizing M with
 |nil=>cases M with
  |nil=>intro KK Z s Y LT h I;exact O (aE h).symm<|YR ⟨KK,Z,rfl,I,.refl⟩
  |cons x1 x2=>exact F.elim
 |cons e es ih=>cases M with
  |nil=>exact F.elim
  |cons x M=>
    intro KK Z s Y LT h I;rw[ph]at h;simp only[forIn_cons,if_true];refine YV<|YV<|yH (bv:=aY x) (bv':=aY x++bu M) h .refl di (λr av h=>?_) (λo e hd=>F.1 KK Z s Y o e hd I) λr d aj af au s₁ h hd ax aW S=>?_
    .refine aB (ba h) λd T4=>?_;exact⟨_,T4.1⟩
    .rw[hd,wJ]at h;refine YR ?_;cases ht:tD d with
     |true=>rw[ht,YX rfl]at h;refine YS (ih F.2.2 af au s₁ aj LT h ax) (λb s' p=>?_) λe s' p=>p.sub eI S;exact er p λag Z' p=>(⟨ag,Z',p.1,p.2.1,S.trans<|p.2.2.sub eI⟩)
     |false=>rw[ht,YY Z7]at h;exact O (aE h).symm<|qi ⟨af,au,rfl,ax,S⟩
theorem pF:∀{is:VS}{Y:Fm}{j:Nat},(∀sl,Y[j]?=some sl->sl = .no)\/j∈is-> ∀sl,(clr Y is)[j]?=some sl->sl = .no
 |[],Y,j,h=>h.elim id λq=>nomatch q
 |i::is,Y,j,h=>pF (is:=is) (Y:=Y.set i .no) (by
  rcases h with h|h
  .exact .inl λsl e=>(dB e).elim (λq=>q.2) λq=>h sl q.2
  .rcases mem_cons.mp h with rfl|h
   .exact .inl λsl e=>(dB e).elim (λq=>q.2) λq=>absurd rfl q.1
   .exact .inr h)
theorem CG.vars{vs:VT}(h:CG i g vs t)(h1:i<=j)(h2:j<i+vs.length):j∈aQ t:=by cases h with
 |one=>exact mem_singleton.mpr<|Zk (Nat.le_of_lt_succ h2) h1
 |two=>
  rcases Nat.eq_or_lt_of_le h1 with q|q
  .exact q▸ .head _
  .exact Zu _ (mem_singleton.mpr<|Zk (Nat.le_of_lt_succ h2) q)
theorem CG.gok{vs:VT}{it:gM}(h:CG i g vs t)(hz:it.pairs=true->t.isTup=true):PQ it g:=λq=>by cases h with
 |one=>cases hz q
 |two=>exact⟨_,_,_,rfl⟩
theorem ur{oh:Expr}{ed:VV}{it VM:Value}{VN:Env}{R:Result->Shared->Prop}(I:Nat->Shared->Prop)
  (Qg:∀n s,I n s->wpAny (model prog w) A (pyNext it) (λr s₁=>match r with
   |none=>R (.ok .next) s₁
   |some v=>wpAny (model prog w) A (letOwnedTupleGo oh it v) (λaa s₁=>wpAny (model prog w) A (assign oh VN v) (λaa aC=>
     wpAny (model prog w) A (forIn ed true λc r=>if r=true then do let ok <- isTrue c VN (eval c VN);pure (ForInStep.yield ok) else pure (ForInStep.yield r)) (λok jp=>
      if ok=true then wpAny (model prog w) A (eval cX VN) (λx mG=>
       wpAny (model prog w) A (call (.builtin "list.append") [VM,x]) (fun aa sP=> ∃m,m < n∧I m sP) (notedBy (model prog w) A VN fun e s'=>R (.error e) s') mG) (notedBy (model prog w) A VN fun e s'=>R (.error e) s') jp
      else ∃m,m<n/\I m jp) (notedBy (model prog w) A VN λe s'=>R (.error e) s') aC) (notedBy (model prog w) A VN λe s'=>R (.error e) s') s₁) (notedBy (model prog w) A VN λe s'=>R (.error e) s') s₁) (notedBy (model prog w) A VN λe s'=>R (.error e) s') s)
  (n:Nat) (h:I n s):codeAny (model prog w) A (.compLoop (.ListComp cX [⟨oh,cM,ed,0⟩] scope pos) 0 it VM VN) R s:=by
 refine codeAny_loop rfl I (λn s hI=>?_) n h;show wpAny _ A ((compTurn (.ListComp cX [⟨oh,cM,ed,0⟩] scope pos) 0 it VM VN).onRaise (λx=>do noteFrame x VN;theTreesLotGoes x)) _ _ s
 refine wpAny_noted ?_;rw[compTurn_list];refine YV<|wpAny_standAt<|YV<|YS (Qg n s hI) (λr s₁ h₁=>?_) λaa ai h'=>h';cases r with
 |none=>exact YR h₁
 |some v=>refine YV<|YS h₁ (λaa aC h₁=>YV<|YS h₁ (λaa aC bV=>YV<|YS bV (λok jp fy=>?_) λaa ai h'=>h') λaa ai h'=>h') λaa ai h'=>h';cases ok with
  |false=>exact YR ⟨rfl,fy⟩
  |true=>exact YV<|YV<|YS fy (λx mG JO=>YV<|YS JO (λaa sP qZ=>YR<|YR ⟨rfl,qZ⟩) λaa ai h'=>h') λaa ai h'=>h'
theorem QP{p:Prop}[Decidable p]{x:Option α}{r:α}(h:(if p then none else x)=some r):x=some r:=by
 by_cases q:p
 .rw[YX q]at h;exact am h
 .rw[YY q]at h;exact h
theorem KV{vs:VT}{v:Value}{d:D}{C:Addr}{Y av:Fm}{Q:Unit->Shared->Prop}(cg:CG i g vs t)(en:aJ A V VN y)(hh:A.handled=none)
  (hv:∀k v,vs[k]?=some v->V.vars.lookup v=some (i+k)/\VN.kindOf v=some .local/\y.loc (i+k)=some (.dict C v))
  (he:asgT c.pin Y t (.fz d)=some av) (I:Inv y KK Z s.heap Y) (R:bE s.heap Z v d)
  (K:∀h' tk,Inv y KK Z h' av->Step y (aQ t) KK Z s KK Z {s with heap:=h',toks:=tk}->Q () {s with heap:=h',toks:=tk}):wpAny (model prog w) A (assign g VN v) Q E s:=by
 cases cg with
 |one=>obtain⟨h1,z⟩:=hv 0 _ rfl;obtain⟨_,rfl⟩:=PI he;exact wpAny_assign_Name<|eN en h1 (by refine O z.1 ?_;intro q;cases q) z.2 I λh' tk P=>K h' tk (P.fz I z.2 R)<|P.step z.2 I
 |two=>cases d with
  |tuple X=>
   refine ak λG g=>?_;obtain⟨a,us,n,rfl,ht,hn,RR,z⟩:=cU.tuple<|.inl R;obtain⟨h1,h2,h3⟩:=hv 0 _ rfl;obtain⟨g1,U⟩:=hv 1 _ rfl;refine g ?_;have he:mT c.pin Y [i,i+1] X=some av:=he;cases RR with
   |nil=>exact am he
   |@cons u us d X r RR=>
   have he:mT c.pin (Y.set i<|.fz d) [i+1] X=some av:=QP he;cases RR with
   |nil=>exact am he
   |@cons u' us d' X r' RR=>
   cases RR with
   |cons=>exact am<|QP he
   |nil=>
   obtain rfl:=aE<|QP he;refine assign_Tuple_tuple hh ⟨_,ht,rfl,_,rfl⟩ rfl rfl λh' ext=>?_;have kp:∀b o,s.heap.get? b=some o->h'.get? b=some o:=λb o e=>ext b o (Zc<|ZZ e) e;have I0:Inv y KK Z ({s with heap:=h'}:Shared).heap Y:=I.grow kp;refine assignInOrder_cons<|wpAny_assign_Name<|eN (s:= {s with heap:=h'}) en h1 (by refine O h2 ?_;intro q;cases q) h3 I0 λh₁ tk P=>?_;have I1:=P.fz I0 h3<|r.mono (λb o aa=>kp b o) λaa z=>z;have S1:Step y [i] KK Z s KK Z {s with heap:=h₁,toks:=tk}:=(Step.grow (tk:=s.toks) kp).trans<|P.step h3 I0;refine assignInOrder_cons<|wpAny_assign_Name<|eN (s:= {s with heap:=h₁,toks:=tk}) en g1 (by refine O U.1 ?_;intro q;cases q) U.2 I1 λbV C4 P'=>assignInOrder_nil ?_;exact K bV C4 (P'.fz I1 U.2<|S1.rep I r')<|(S1.sub λj hj=>mem_cons.mpr<|.inl<|mem_singleton.mp hj).trans<|(P'.step U.2 I1).sub λj hj=>Zu _ hj
  |_=>exact am he
inductive Px(y:Lay)(bv:VS)(KK:VP)(Z:VQ)(s:Shared)(ac:VX)(fp wr:List Addr)(P:Nat->vW->Prop)(St:Nat->Heap->Prop)(Da:Addr)(c:Cfg)(x:Ex)(t:Tgt)(aw:List Ex)(LT:VW Rv×Fm)(m:Nat)(s':Shared):Prop
 |mk (k:Nat) (ag:VP) (Z':VQ) (dU:Fm) (vs:VU) (xw:VX):m=ac.length+1-k->k<=ac.length->Inv y ag Z' s'.heap dU->Step y bv KK Z s ag Z' s'->
   iS y ac fp wr P St s.heap ag Z' s'.heap k->cN y ag Z' s.heap s'.heap Da->s'.heap.PlainList Da vs.toArray->aq s'.heap Z' vs xw->xw.length<=k->
   rY (aQ t) (bB c dU x t aw<|ac.drop k) (λPS Y=>some (.ok<|.KK<|.list<|xw++PS,Y))=some LT->Px y bv KK Z s ac fp wr P St Da c x t aw LT m s'
theorem xH{GA:VT}{C:Addr}{ed:VV}{x:Ex}{It Da:Addr}{ac:VX}{wr:List Addr}{P:Nat->vW->Prop}{St:Nat->Heap->Prop}{it:gM}{R:Result->Shared->Prop}
  (cg:CG i g GA t) (hz:it.pairs=true->t.isTup=true) (UV:A.handled=none) (en:aJ A V VN y) (hv:∀k v,GA[k]?=some v->V.vars.lookup v=some (i+k)/\VN.kindOf v=some .local/\y.loc (i+k)=some (.dict C v)) (hX:SE A c y (eval cX VN) x) (hC:F2 (λe x=>ST A c y (isTrue e VN<|eval e VN) x) ed aw)
  (R0:∀j∈aQ t,j∈bv) (PT:∀j∈aY x,j∈bv) (PU:∀j∈bu aw,j∈bv) (W:Wk A it It ac fp wr P St) (eZ:ac.length<=Sz) (w2:Da∉fp) (sD:s.heap.get? Da=none)
  (ax:Inv y af au s₁.heap aj) (aW:Step y bv KK Z s af au s₁) (HB:iS y ac fp wr P St s.heap af au s₁.heap 0) (HJ:cN y af au s.heap s₁.heap Da) (AU:s₁.heap.PlainList Da ([]:VU).toArray)
  (h:rY (aQ t) (bB c aj x t aw ac) (λX Y=>some (.ok<|.KK<|.list X,Y))=some LT)
  (KE:∀nm f e s',LT=(.error nm,clr f<|aQ t)->Cp y bv KK Z s LT e s'->R (.error e) s')
  (K:∀(s':Shared)(ag:VP)(Z':VQ)(X:VX)(dU:Fm),LT=(.ok<|.KK<|.list X,clr dU<|aQ t)->Inv y ag Z' s'.heap dU->Step y bv KK Z s ag Z' s'->cN y ag Z' s.heap s'.heap Da->cT s'.heap Z' Da (.list X)->R (.ok .next) s'):
  codeAny (model prog w) A (.compLoop (.ListComp cX [⟨g,cM,ed,0⟩] scope pos) 0 (.ref It) (.ref Da) VN) R s₁:=by
 refine JX (Px y bv KK Z s ac fp wr P St Da c x t aw LT) λJ je ji=>?_;refine ur J ?_ (ac.length+1)
  (ji _ _ ⟨0,af,au,aj,[],[],rfl,Y7 _,ax,aW,HB,HJ,AU,.nil,Y7 _,by refine O drop_zero ?_;exact h⟩)
 clear h ax aW HB HJ AU;intro m s' jq;obtain⟨k,ag,Z',dU,vs,xw,rfl,e6,I',S',HC,Se,NO,RA,GZ,hh⟩:=je _ _ jq;clear jq je;by_cases CF:k<ac.length
 .clear K;have hd:=ZK CF;rw[List.drop_eq_getElem_cons CF]at hh;generalize ac[k]=d at hd hh;rw[uu]at hh;refine nq W (cg.gok hz) HC I' S' hd (λaa ai p=>p) λval sP Ce Gy vS vR Gs Gg GL An=>?_;have kD:∀o,s'.heap.get? Da=some o->sP.heap.get? Da=some o:=λo e=>An Da o (λhm=>w2<|W.sub Da hm) e;have HI:=GL Da Se λhm=>w2<|W.sub Da hm;have AM:=NO.at kD;have vm:vs.length<=ac.length:=by exact O RA.length (Ln [xw.length,ac.length,k] (.w .x .y) [Gl .z .y,Gl .x .z] rfl e6 GZ)
  have HG:=RA.mono (λa o z=>An a o λq=>(HC.wr a q).2.2.2.1 z) Gy;clear kD NO Se RA S' HC I' An GL Gy;have r6:=Gs.clr<|aQ t;generalize clr dU (aQ t)=fr₅ at hh r6;rcases oY:asgT c.pin fr₅ t (.fz d) with _|fr₆
  .rw[oY]at hh;exact am hh
  .rw[oY,wJ]at hh;refine KV cg en UV hv oY r6 vS λNH tk pS Pf=>?_;have xU:=Gg.trans<|Pf.sub R0;have Hz:=vR.step W r6 Pf;obtain⟨HH,GO⟩:=Pf.loose HI;have AL:=AM.at GO;have HF:=Pf.repAll r6 HG;clear Pf GO AM HG HI vR Gg vS r6 oY;rcases N0:df c aw fr₆ with _|⟨e7|b,fr₇⟩
   .have hh:=N0▸hh;exact am hh
   .rw[N0]at hh;obtain rfl:=aE hh;exact YS (kH hC ag Ce {sP with heap:=NH,toks:=tk} _ _ N0 pS) (λb' sO p=>by refine er p λaa ai p=>?_;exact mI p.1) λaa ai x=>(x.up (γ:=Rv) PU xU).clr.note en λdQ p=>KE _ _ _ _ rfl p
   .rw[N0]at hh;refine YS (kH hC ag Ce {sP with heap:=NH,toks:=tk} _ _ N0 pS) (λb' sO p=>?_) λaa ai x=>x.elim;refine er p λgu pP p=>?_;have q:=p.1;have kh:=p.2.1;have Pe:=p.2.2;refine O (jk q).symm ?_;have mu:=xU.trans<|Pe.sub PU;have Cg:=Hz.step W pS Pe;obtain⟨Cs,GN⟩:=Pe.loose HH;have tP:=AL.at GN;have Co:=Pe.repAll pS HF;clear Pe GN AL HF HH Hz xU pS;rw[jh]at hh;cases b with
    |false=>rw[YY Z7]at hh ⊢;exact⟨ac.length+1-(k+1),ly e6,ji _ _ ⟨k+1,gu,pP,fr₇,vs,xw,rfl,CF,kh,mu,Cg,Cs,tP,Co,Nat.le_succ_of_le GZ,hh⟩⟩
    |true=>
     rw[YX rfl]at hh ⊢;rcases NY:ev c x fr₇ with _|⟨e8|r,fr₈⟩
     .rw[NY]at hh;exact am hh
     .rw[NY]at hh;obtain rfl:=aE hh;exact YS (hX gu pP sO _ _ NY kh) (λval C7 p=>by obtain⟨_,_,_,q,_⟩:=p;exact mI q) λaa ai x=>(x.up (γ:=Rv) PT mu).clr.note en λdQ p=>KE _ _ _ _ rfl p
     .have hh:=NY▸hh;rw[jh]at hh;refine YS (hX gu pP sO _ _ NY kh) (λval C7 p=>?_) λaa ai x=>x.elim;refine ak λG g1=>?_;obtain⟨r',y1,Vt,q,Pt,TU,Ph⟩:=p;obtain rfl:=jk q;cases hr:c5 r with
      |none=>refine g1 ?_;rw[hr]at hh;exact am hh
      |some d'=>
       refine g1 ?_;have hh:=hr▸hh;obtain⟨Lj,Sg,Pd,Sb⟩:=Ph.freeze Pt TU hr;have R8:=mu.trans<|Pd.sub PT;have Pc:=Cg.step W kh Pd;obtain⟨vV,GM⟩:=Pd.loose Cs;have JS:=tP.at GM;have Pj:=Pd.repAll kh Co;clear Pd GM tP Co Cs Cg mu kh Ph Pt TU;refine wpAny_list_append_plain (hsz:=by refine O Zo<|O bW.symm ?_;exact(Ln [vs.length,ac.length] (.w .x<|.c 16777216) [Gl .y<|.c 16777216,Gl .x .y] rfl eZ vm)) JS λvi re AI=>?_;have kp:∀b o, ¬b=Da->C7.heap.get? b=some o->vi.get? b=some o:=λb o q e=>AI.extBut b o q e;have vp:∀b,b=Da-> ¬y.wr y1 b/\ ¬y.F b/\ ¬Lj b:=λb q=>by subst q;exact⟨vV.2.1,vV.2.2.1,vV.2.2.2.1⟩
       have kz:∀a o,Lj a->C7.heap.get? a=some o->vi.get? a=some o:=λa o z e=>kp a o (λq=>(vp a q).2.2 z) e;refine⟨ac.length+1-(k+1),ly e6,ji _ _ ⟨k+1,y1,Lj,fr₈,vs++[val],xw++[d'],rfl,CF,Sg.other vp kp,R8.other (tk:=C7.toks) (Id:=λb=>b=Da) (λb q=>⟨q▸sD,(vp b q).1⟩) kp,
        Pc.other W (Id:=λb=>b=Da) (λb q=>⟨(vp b q).2.2,q▸w2⟩) kp,vV.other (let ⟨n,e⟩:=re;⟨_,e⟩),by simpa using re,(Pj.mono kz λaa z=>z).append<|.cons (Sb.mono kz λaa z=>z) .nil,by refine O ZI ?_;simp;exact GZ,?_⟩⟩
       rcases Rg:bB c fr₈ x t aw (ac.drop<|k+1) with _|⟨_|PS,f⟩
       .have hh:=Rg▸hh;exact am hh
       .rw[Rg]at hh;exact hh
       .rw[Rg]at hh;refine Eq.trans ?_ hh;show some ((Except.ok (Rv.KK<|.list<|xw++[d']++PS):VW Rv),f)=some (Except.ok<|Rv.KK<|.list (xw++d'::PS),f)
        rw[ZP];rfl
 .have LY:k=ac.length:=Zk e6<|Nat.not_lt.mp CF;subst LY;rw[List.drop_length,aL]at hh;have wY:=(Y5 hh).symm;rw[ZO]at wY;refine nt W HC I' S' λdQ Cv Ma kp aa=>?_;have kD:∀o,s'.heap.get? Da=some o->dQ.heap.get? Da=some o:=λo e=>kp Da o (λhm=>w2<|W.sub Da hm) e;have kz:∀a o,Z' a->s'.heap.get? a=some o->dQ.heap.get? a=some o:=λa o z=>kp a o λq=>(HC.wr a q).2.2.2.1 z;obtain⟨n,e⟩:=NO.at kD;exact K dQ ag Z' xw dU wY Cv Ma (Se.other (h':=dQ.heap) ⟨_,e⟩)<|.list e (by refine O RA.length ?_;exact(Ln [xw.length,ac.length] (.w .x<|.c 16777216) [Gl .y<|.c 16777216,Gl .x .y] rfl eZ GZ))<|RA.mono kz λaa z=>z
theorem mi{vs:VT}{gp:Pos}{ed:VV}{it:gM}{x:Ex}{use:Option (Value->Sem Unit)}{Q:VR} 
  (cg:CG i g vs t) (hz:it.pairs=true->t.isTup=true) (hh:c.hd=false->A.handled=none) (en:aJ A V VN y) (ok:ip scope V vs) (hi:V.hi<=i) (hI:SI A c y (eval cM VN) it bG) (AO:∀v,foldedSetIterable cM VN v=pure v)
  (hX:∀VN y,aJ A (bM scope V vs i) VN y->SE A c y (eval cX VN) x) (hC:∀VN y,aJ A (bM scope V vs i) VN y->F2 (λe x=>ST A c y (isTrue e VN<|eval e VN) x) ed aw)
  (h:ev c (.comp x t it bG aw) Y=some LT) (I:Inv y KK Z s.heap Y)
  (hE:∀e s',aV y (aY<|.comp x t it bG aw) KK Z s LT e s'->E e s')
  (K:∀(Da C:Addr)(s':Shared)(ag:VP)(Z':VQ)(X:VX)(dU:Fm)(m:Str->Option Value),LT=(.ok<|.KK<|.list X,dU)->Inv y ag Z' s'.heap dU->Step y (aY<|.comp x t it bG aw) KK Z s ag Z' s'->
   eD y ag Z' s.heap s'.heap (.KK<|.list X) (.ref Da)->cN y ag Z' s.heap s'.heap C->s'.heap.Ns C m->Da≠C->compPost (model prog w) A E use Q (.ref Da) C (.ok .next) s'):
  wpAny (model prog w) A (comprehension (.ListComp cX [⟨g,cM,ed,0⟩] scope pos) scope VN gp (newList []) false (eval cM VN) use) Q E s:=by
 have GT:∀j l,y.loc j=some l->j<i:=λj l e=>Zd (en.hi j l e) hi;rw[Fg]at h;cases fX:c.hd with
 |true=>rw[fX]at h;exact am h
 |false=>
 rw[fX]at h;have h:=(YY Z7)▸h;have RZ:∀j∈bu bG,j∈aY (.comp x t it bG aw):=λj hj=>Zx _<|Zw _ hj;have PT:∀j∈aY x,j∈aY (.comp x t it bG aw):=λj hj=>Zx _<|Zx _<|Zw _ hj;have PU:∀j∈bu aw,j∈aY (.comp x t it bG aw):=λj hj=>Zw _ hj;have R0:∀j∈aQ t,j∈aY (.comp x t it bG aw):=λj hj=>Zx _<|Zx _<|Zx _ hj;generalize VH:aY (.comp x t it bG aw)=bv at *;have Fh:=λC=>(BQ (C:=C) en ok hi)
 refine wpAny_comprehension_free (use:=use) rfl AO (Fh 0).1 ok.kind ok.names ?_;rcases aN h with⟨e,f,hm,rfl⟩|⟨rs,aj,hm,h⟩
 .refine YS (hI KK Z s Y _ hm (λrs q=>by exact mI q) fX I) (λx s₁ p=>YS p (λLW aC p=>?_) λaa ai x=>hE _ _<|x.up RZ .refl) λaa ai x=>hE _ _<|x.up RZ .refl;obtain⟨_,_,_,_,_,_,_,_,_,_,q,_⟩:=p;exact mI q
 .refine aB (ba h) λX P6=>?_;have h:=P6.2;refine aB (ba h) λac P5=>?_;have h:=P5.2;refine YS (hI KK Z s Y _ hm (λrs q=>by refine O (jk q).symm ?_;exact⟨X,ac,P6.1,P5.1⟩) fX I) (λxv s₁ p=>YS p (λLW aC p=>?_) λaa ai x=>x.elim) λaa ai x=>x.elim;obtain⟨LQ,iH,JI,af,au,It,fp,wr,P,St,q,AR,rf,eZ,rfl,aF,aO,W,WA⟩:=p;obtain rfl:=jk q;rw[P6.1]at AR;obtain rfl:=aE AR;rw[P5.1]at rf;obtain rfl:=aE rf;dsimp only at aF;have aO:=aO.sub RZ
  -- the list and the block
  refine wpAny_newObj_type (wpAny_newFunctionEnv ok.cell (by intro z hz; exact nomatch hz) (fun h₁ tQ oX=>?_) ok.kind);dsimp only at tQ oX ⊢;generalize Ro:aC.heap.push {cls:=.type "list",dict:=none,data:=.seq ([] :VU).toArray}=H2 at tQ oX ⊢;let Da:=aC.heap.objs.size
  let C:=H2.objs.size
  have hsz:H2.objs.size=aC.heap.objs.size+1:=by refine O Ro.symm ?_;rw[Heap.size_push]
  have G0:Da≠C:=by show aC.heap.objs.size≠H2.objs.size;exact(λMP=>(Lf [H2.objs.size,aC.heap.objs.size] [Gf .x<|.p 1 .y,Gf .y .x] rfl hsz MP))
  have nC:aC.heap.get? C=none:=by cases e:aC.heap.get? C with
   |none=>rfl
   |some o=>have:=ZZ e;exact absurd this (by show ¬H2.objs.size<_;exact(λMO=>(Lf [H2.objs.size,aC.heap.objs.size] [Gf .x<|.p 1 .y,Gl (.p 1 .x) .y] rfl hsz MO)))
  have nD:aC.heap.get? Da=none:=w8 _;have old:∀b o,aC.heap.get? b=some o->h₁.get? b=some o:=λb o e=>by exact oX.extBut b o (Zc<|Nat.lt_trans (ZZ e) (by refine O hsz ?_;exact lt_succ_self _))<|Z2 _<|Ro▸Z2 _ e
  have AU:h₁.PlainList Da ([]:VU).toArray:=⟨_,oX.extBut _ _ G0<|Z2 _<|Ro▸Z1 _ rfl⟩
  have sC:=aO.old _ nC;have sD:=aO.old _ nD;have w2:Da∉fp:=λhm=>by obtain⟨o,e⟩:=W.lv 0 _ WA.st Da hm;rw[nD]at e;exact am e
  -- the turns
  let mG:Shared:= {aC with heap:=h₁,toks:=aC.toks+([]:List (Str×Value)).length}
  have lp:∀{b:Addr},cN y af au s.heap aC.heap b->cN (y.puts C i vs) af au s.heap mG.heap b:=fun {b} l=>by obtain⟨l1,l2,l3,l4,o,l5⟩:=l;exact⟨l1,λq=>(sY q).elim l2 (λq=>by rw[q,nC]at l5;exact am l5),l3,l4,o,old b o l5⟩
  have HA:iS (y.puts C i vs) ac fp wr P St s.heap af au mG.heap 0:=
   ⟨W.frame 0 _ _ WA.st λb aa o e=>old b o e,λb hb=>(WA.fp b hb).imp id lp,λb hb=>lp<|WA.wr b hb,λj v hj p=>let ⟨d,e,r⟩:=WA.it j v hj p;⟨d,e,r.mono (λa o aa=>old a o) λaa z=>z⟩⟩
  have LD:cN (y.puts C i vs) af au s.heap mG.heap Da:=⟨sD,λq=>(sY q).elim (aF.fresh nD).1 λq=>G0 q,(aF.fresh nD).2.1,(aF.fresh nD).2.2,let ⟨n,e⟩:=AU;⟨_,e⟩⟩
  have M9:codeAny (model prog w) A (.compLoop (.ListComp cX [⟨g,cM,ed,0⟩] scope pos) 0 (.ref It) (.ref Da)<|compEnvC scope (xK VN scope.names []) C VN) (compPost (model prog w) A E use Q (.ref Da) C) mG:=by
   have Hx:∃v,vs[0]?=some v:=by cases cg<;>exact⟨_,rfl⟩
   refine aB Hx λv0 Hx=>?_;have Hx:=oC (y:=y) (C:=C) (i:=i) Hx;have LC:∀{ag:VP}{Z':VQ}{dQ:Shared}{dU:Fm},Inv (y.puts C i vs) ag Z' dQ.heap dU->cN y ag Z' s.heap dQ.heap C/\ ∃m,dQ.heap.Ns C m:=λCv=>by
    refine aB (Cv.ok _ _ Hx) λm hm=>?_;refine⟨⟨sC,λq=>?_,Cv.wf.nf _ _ Hx,Cv.zl _ _ Hx,let ⟨o,_,_,e,_⟩:=hm;⟨o,e⟩⟩,m,hm⟩;rcases q with q|q|⟨j,l,hl,q⟩
    .exact q (Cv.ol _ _ Hx)
    .refine pc aF.nsL λm o aa ai u=>?_;have e:=u.1;rw[<- q,nC]at e;exact am e
    .obtain⟨o,e⟩:=(aF.ok j l hl).live;rw[q,nC]at e;exact am e
   refine xH (C:=C) cg hz (hh fX) ((Fh C).2) (λk v e=>⟨qO<|vZ ok.vnd e,lookup_relabel_local<|ok.loc v<|Zs e,oC e⟩) (hX _ _<|(Fh C).2) (hC _ _<|(Fh C).2) R0 PT PU W eZ w2 sD ((aF.grow old).put GT ok.vnd (aF.fresh nC).1 (aF.fresh nC).2.1 (aF.fresh nC).2.2 tQ) ((aO.trans<|.grow old).put GT sC) HA LD AU h (λnm f e dQ wY p=>?_) λdQ ag Z' xw dU wY Cv Ma Lu OA=>?_
   .obtain⟨CA,a,ag,Z',q,rfl,I',S',Id⟩:=p;obtain⟨Pq,m,hm⟩:=LC I';refine⟨m,hm,λh' sb Vr aa=>?_⟩;have vp:∀b,b=C-> ¬y.wr ag b/\ ¬y.F b/\ ¬Z' b:=λb q=>by subst q;exact⟨Pq.2.1,Pq.2.2.1,Pq.2.2.2.1⟩
    have kp:∀b o, ¬b=C->dQ.heap.get? b=some o->h'.get? b=some o:=λb o q e=>sb.extBut b o q e;have I1:Inv y ag Z' h' LT.2:=(I'.unput I.wf GT en.slo λj h1 h2=>by refine O wY ?_;exact pF<|.inr<|cg.vars h1 h2).other vp kp;have S1:Step y bv KK Z s ag Z' {dQ with heap:=h'}:=(S'.unput GT sC).other (tk:=dQ.toks) (Id:=λb=>b=C) (λb q=>⟨q▸sC,(vp b q).1⟩) kp;have X1:dv h' (λb=>s.heap.get? b=none/\ ¬y.wr ag b/\ ¬y.F b/\ ¬Z' b) a CA:=Id.mono (λb o vs hd e=>kp b o (λq=>by refine kF hm λo' aa ai hm=>?_;have e':=hm.1;have cQ:=hm.2.1;rw[q,e']at e;obtain rfl:=aE e;have hd:=cQ▸hd;exact nomatch hd) e) λb h=>⟨h.1,λq=>h.2.1<|sI GT q,h.2.2.1,h.2.2.2⟩
    exact yZ (s:= {dQ with heap:=h'}) X1 λfy lv Gc=>hE _ _ ⟨CA,a,ag,Z',q,rfl,Inv.lv (s:= {dQ with heap:=h'}) I1 lv (λb p=>p.2) λaa f=>f.elim,S1.lv I1 lv (λb p=>p) λaa f=>f.elim,Gc.is⟩
   obtain⟨Pq,m,hm⟩:=LC Cv;exact K Da C dQ ag Z' xw _ m wY ((Cv.clr<|aQ t).unput I.wf GT en.slo λj h1 h2=>pF<|.inr<|cg.vars h1 h2) (Ma.unput GT sC) ⟨Da,rfl,sD,λq=>Lu.2.1<|sI GT q,Lu.2.2.1,Lu.2.2.2.1,OA⟩ Pq hm G0
  exact codeAny_compStart_list M9<|W.self 0 _ _ _ HA.st M9
theorem Dz{vs:VT}{ed:VV}{it:gM}{x:Ex}
  (cg:CG i g vs t) (hz:it.pairs=true->t.isTup=true) (hh:c.hd=false->A.handled=none) (en:aJ A V VN y) (ok:ip scope V vs) (hi:V.hi<=i) (hI:SI A c y (eval cM VN) it bG) (AO:∀v,foldedSetIterable cM VN v=pure v)
  (hX:∀VN y,aJ A (bM scope V vs i) VN y->SE A c y (eval cX VN) x) (hC:∀VN y,aJ A (bM scope V vs i) VN y->F2 (λe x=>ST A c y (isTrue e VN<|eval e VN) x) ed aw):
  SE A c y (eval (.ListComp cX [⟨g,cM,ed,0⟩] scope pos) VN) (.comp x t it bG aw):=by
 intro KK Z s Y LT h I;rw[eval_ListComp];refine mi (use:=none) cg hz hh en ok hi hI AO hX hC h I (λaa ai x=>x) λD C s' ag Z' X dU m ho I' S' R' LC hm G0=>?_;subst ho;refine⟨m,hm,λh' hs=>?_⟩;refine ak λG g1=>?_;obtain⟨a,q,R'⟩:=R';cases q;have kp:∀b o, ¬b=C->s'.heap.get? b=some o->h'.get? b=some o:=λb o q e=>hs.extBut b o q e;have vp:∀b,b=C-> ¬y.wr ag b/\ ¬y.F b/\ ¬Z' b:=λb q=>by subst q;exact⟨LC.2.1,LC.2.2.1,LC.2.2.2.1⟩
 exact g1<|⟨_,ag,Z',rfl,I'.other vp kp,S'.other (Id:=λb=>b=C) (λb q=>⟨q▸LC.1,(vp b q).1⟩) kp,_,rfl,R'.1,R'.2.1,R'.2.2.1,R'.2.2.2.1,R'.2.2.2.2.mono (λa o z=>kp a o λq=>(vp a q).2.2 z) (λaa z=>z) λo e=>kp _ o G0 e⟩
end
theorem F2.imp{P Q:Expr->Ex->Prop}(h:∀e x,P e x->Q e x):∀{es:VV}{M:List Ex},F2 P es M->F2 Q es M
 |[],[]=>@λaa=>trivial
 |_::_,_::_=>@λF=>⟨h _ _ F.1,F.2.1,F.2.2.imp h⟩
 |[],_::_=>@λF=>F.elim
 |_::_,[]=>@λF=>F.elim
section
variable {A:Around}{c:Cfg}{n:Nat}
abbrev M1(A:Around)(c:Cfg)(V:Sc)(e:Expr)(x:Ex):Prop:= ∀(VN:Env)(y:Lay),aJ A V VN y->SE A c y (eval e VN) x/\ST A c y (isTrue e VN<|eval e VN) x
abbrev M2(A:Around)(c:Cfg)(V:Sc)(es:VV)(M:List Ex):Prop:= ∀(VN:Env)(y:Lay),aJ A V VN y->F2 (λe x=>CE V e x/\SE A c y (eval e VN) x/\ST A c y (isTrue e VN<|eval e VN) x) es M
abbrev M3(A:Around)(c:Cfg)(V:Sc)(o:Option Expr)(x:Ex):Prop:= ∀(VN:Env)(y:Lay),aJ A V VN y->SE A c y (evalPart o VN) x
abbrev M4(A:Around)(c:Cfg)(V:Sc)(e:Expr)(it:gM)(bG:List Ex):Prop:= ∀(VN:Env)(y:Lay),aJ A V VN y->SI A c y (eval e VN) it bG
def MM(A:Around)(c:Cfg)(V:Sc):Sy->Prop
 |.e e x=>M1 A c V e x
 |.s es M=>M2 A c V es M
 |.o o x=>M3 A c V o x
 |.i e it bG=>M4 A c V e it bG
theorem bc(R:Rn A c n):∀V q,CQ V q->MM A c V q:=by
 have fB:∀{V:Sc}{e:Expr}{x:Ex},(∀VN y,aJ A V VN y->SE A c y (eval e VN) x)->(∀VN,isTrue e VN (eval e VN)=(do let v <- eval e VN;standAt e.pos;holding [v] (truthy v)))->M1 A c V e x:=
  λH he VN y en=>⟨H VN y en,.of (H VN y en)<|he VN⟩
 have p2:∀{V:Sc}{es:VV}{M:List Ex}{VN:Env}{y:Lay},F2 (λe x=>CE V e x/\SE A c y (eval e VN) x/\ST A c y (isTrue e VN<|eval e VN) x) es M->F2 (λe x=>CE V e x/\SE A c y (eval e VN) x) es M:=λF=>F.imp λaa ai h=>⟨h.1,h.2.1⟩
 have pe:∀{V:Sc}{es:VV}{M:List Ex}{VN:Env}{y:Lay},F2 (λe x=>CE V e x/\SE A c y (eval e VN) x/\ST A c y (isTrue e VN<|eval e VN) x) es M->F2 (λe x=>SE A c y (eval e VN) x) es M:=λF=>F.imp λaa ai h=>h.2.1;have pt:∀{V:Sc}{es:VV}{M:List Ex}{VN:Env}{y:Lay},F2 (λe x=>CE V e x/\SE A c y (eval e VN) x/\ST A c y (isTrue e VN<|eval e VN) x) es M->F2 (λe x=>ST A c y (isTrue e VN<|eval e VN) x) es M:=λF=>F.imp λaa ai h=>h.2.2;have OT:∀{V:Sc}{k:Const}{kk:Nat}{pos:Pos}{d:D}(a:cP k d),M1 A c V (.Constant k kk pos) (.lit d):=λa=>fB (λVN y en=>yJ a) λaa=>rfl;have OK:∀{V:Sc}{x:Str}{pos:Pos}{i:Nat}(a:V.isV x i),M1 A c V (.Name x pos) (.var i):=λa=>fB (λVN y en=>jU en a) λaa=>rfl;have RN:∀{V:Sc}{x:Str}{pos:Pos}{i:Nat}(a:V.isV x i),M1 A c V (.Name x pos) (.pl<|.var i):=λa=>fB (λVN y en=>My en a) λaa=>rfl;have RO:∀{V:Sc}{x:Str}{pos:Pos}{k:Nat}(a:V.isG x)(b:tb.gl[k]?=some x),M1 A c V (.Name x pos) (.gl k):=λa b=>fB (λVN y en=>Mz R en a b) λaa=>rfl;have OL:∀{V:Sc}{es:VV}{k:Nat}{pos:Pos}{M:List Ex}(a:pU V es M)(b:M.length<=1000),M2 A c V es M->M1 A c V (.Tuple es k pos) (.tup M):=λa b ih=>fB (λVN y en=>IB (p2<|ih VN y en) b) λaa=>rfl;have K1:∀{V:Sc}{es:VV}{pos:Pos}{M:List Ex}(a:pU V es M)(b:M.length<=1000),M2 A c V es M->M1 A c V (.List es pos) (.list M):=λa b ih=>fB (λVN y en=>Dw (p2<|ih VN y en) b) λaa=>rfl;have OP:∀{V:Sc}{a b:Expr}{pos:Pos}{o:Cr}{x z:Ex}(h1:CE V a x)(h2:CE V b z)(h3:Apart x (aY z)),M1 A c V a x->M1 A c V b z->M1 A c V (.BinOp a (zg o) b pos) (.op2 o x z):=
  λh1 h2 h3 i1 i2=>fB (λVN y en=>IG (i1 VN y en).1 (i2 VN y en).1 h3) λaa=>rfl
 have OS:∀{V:Sc}{a:Expr}{pos:Pos}{x:Ex}(h1:CE V a x),M1 A c V a x->M1 A c V (.UnaryOp .USub a pos) (.neg x):=λh1 i1=>fB (λVN y en=>IK (i1 VN y en).1) λaa=>rfl;have OQ:∀{V:Sc}{a:Expr}{pos:Pos}{x:Ex}(h1:CE V a x),M1 A c V a x->M1 A c V (.UnaryOp .Not a pos) (.not x):=λh1 i1 VN y en=>⟨II (i1 VN y en).1,Ib (i1 VN y en).2⟩
 have OW:∀{V:Sc}{a b:Expr}{pos:Pos}{o:Cm}{x z:Ex}(h1:CE V a x)(h2:CE V b z)(h3:Apart x (aY z)),M1 A c V a x->M1 A c V b z->M1 A c V (.Compare a [fk o] [b] pos) (.cmp o x z):=
  λh1 h2 h3 i1 i2 VN y en=>⟨IM R (i1 VN y en).1 (i2 VN y en).1 h3<|h2.noSet _,Ic R (i1 VN y en).1 (i2 VN y en).1 h3<|h2.noSet _⟩
 have K7:∀{V:Sc}{a b e:Expr}{pos:Pos}{o p:Cm}{x z u:Ex}(h1:CE V a x)(h2:CE V b z)(h3:CE V e u),M1 A c V a x->M1 A c V b z->M1 A c V e u->M1 A c V (.Compare a [fk o,fk p] [b,e] pos) (.cmp2 o p x z u):=
  λh1 h2 h3 i1 i2 i3 VN y en=>⟨DA R (i1 VN y en).1 (i2 VN y en).1 (i3 VN y en).1<|h3.noSet _,Dd R (i1 VN y en).1 (i2 VN y en).1 (i3 VN y en).1<|h3.noSet _⟩
 have RQ:∀{V:Sc}{j:Bool}{es:VV}{pos:Pos}{M:List Ex}(a:pU V es M),M2 A c V es M->M1 A c V (.BoolOp (B4 j) es pos) (.bo j M):=λa ih VN y en=>⟨MB<|pe<|ih VN y en,Ms<|pt<|ih VN y en⟩
 have OV:∀{V:Sc}{a i:Expr}{pos:Pos}{x z:Ex}(h1:CE V a x)(h2:CE V i z)(h3:Apart x (aY z)),M1 A c V a x->M1 A c V i z->M1 A c V (.Subscript a i pos) (.idx x z):=
  λh1 h2 h3 i1 i2=>fB (λVN y en=>yL (i1 VN y en).1 (i2 VN y en).1 h3 h2.isPlain) λaa=>rfl
 have ON:∀{V:Sc}{a:Expr}{lo hi:Option Expr}{p pos:Pos}{x l u:Ex}(h1:CE V a x)(h2:Sn V lo l)(h3:Sn V hi u)(h4:Apart x (aY l++aY u)),M1 A c V a x->M3 A c V lo l->M3 A c V hi u->M1 A c V (.Subscript a (.Slice lo hi none p) pos) (.slc x l u):=
  λh1 h2 h3 h4 i1 i2 i3=>fB (λVN y en=>IF (i1 VN y en).1 (i2 VN y en) (i3 VN y en) h4) λaa=>rfl
 have K8:∀{V:Sc}{f:Nat}{d:DefRec}{p pos:Pos}{args:VV}{M:List Ex}(h1:tb.fn[f]?=some d/\f<tb.m0)(h2:V.isG d.name)(h3:pU V args M)(h4:args.length<=29),M2 A c V args M->M1 A c V (.Call (.Name d.name p) args [] pos) (.call f M):=
  λh1 h2 h3 h4 ih=>fB (λVN y en=>DB R en h1 h2<|p2<|ih VN y en) λaa=>rfl
 have OX:∀{V:Sc}{b:Bi}{p pos:Pos}{a:Expr}{x:Ex}(h1:b.one=true)(h2:V.isG (dF b))(h3:CE V a x),M1 A c V a x->M1 A c V (.Call (.Name (dF b) p) [a] [] pos) (.bi b [x]):=
  λh1 h2 h3 i1=>fB (λVN y en=>IN R en h1 h2 h3 (i1 VN y en).1) λaa=>rfl
 have OU:∀ {V:Sc} {t:Ty} {p p' pos:Pos} {a:Expr} {x:Ex} (h1:V.isG "isinstance") (h2:V.isG (cI t)) (h3:CE V a x),M1 A c V a x→M1 A c V (.Call (.Name "isinstance" p) [a,.Name (cI t) p'] [] pos) (.bi (.isi t) [x]):=
  λh1 h2 h3 i1=>fB (λVN y en=>IL R en h1 h2 h3 (i1 VN y en).1) λaa=>rfl
 have K6:∀{V:Sc}{cX cM g:Expr}{vs:VT}{t:Tgt}{pos:Pos}{ed:VV}{scope:Scope}{i:Nat}{it:gM}{bG aw:List Ex}{x:Ex}(h0:CG i g vs t)(hz:it.pairs=true->t.isTup=true)(h1:IT V cM it bG)(h2:ip scope V vs)(h3:V.hi<=i)(h4:CE (bM scope V vs i) cX x)(h5:pU (bM scope V vs i) ed aw)(h6:∀j∈aQ t,j∉aY x/\j∉bu aw),
   M4 A c V cM it bG->M1 A c (bM scope V vs i) cX x->M2 A c (bM scope V vs i) ed aw->M1 A c V (.ListComp cX [⟨g,cM,ed,0⟩] scope pos) (.comp x t it bG aw):=
  λh0 hz h1 h2 h3 h4 h5 h6 i1 i2 i3=>fB (λVN y en=>Dz h0 hz R.hh en h2 h3 (i1 VN y en) (h1.noFold VN) (λVN y en=>(i2 VN y en).1) λVN y en=>pt<|i3 VN y en) λaa=>rfl
 have K4:∀{V:Sc}{kL:List (Option Expr)}{ks:VT}{dh:VV}{M:List Ex}{pos:Pos}(h1:KS kL ks)(h2:pU V dh M)(h3:ks.Nodup/\PZ ks)(h4:ks.length=M.length)(h5:ks≠ []/\ks.length<=15)(h6:M.all Ex.noPl=true),M2 A c V dh M->M1 A c V (.Dict kL dh pos) (.bi (.disp ks) M):=
  λh1 h2 h3 h4 h5 h6 ih=>fB (λVN y en=>Dy R h1 (p2<|ih VN y en) h3 h4 h5 h6) λaa=>rfl
 have F3:∀ {V:Sc} {a x:Str} {i j:Nat} {k:Const} {kk:Nat} {d:D} {pa px pk ps ap pos:Pos} (h1:V.isV a i) (h2:V.isV x j) (h3:cP k d) (h4:(ap.endLine == pos.line)=true),M1 A c V (.Call (.Attribute (.Name a pa) "index" ap) [.Subscript (.Name x px) (.Constant k kk pk) ps] [] pos) (.bi .index [.var i,.idx (.var j) (.lit d)]):=
  λh1 h2 h3 h4=>fB (λVN y en=>yK R en h1 h2 h3 h4) λaa=>rfl
 have RP:∀{V:Sc}{e:Expr}{b:Bi}{es:VV}{M:List Ex}(h1:BX V e b es)(h2:pU V es M),M2 A c V es M->M1 A c V e (.bi b M):=
  λh1 h2 ih=>fB (λVN y en=>MA R en h1<|p2<|ih VN y en) λaa=>by cases h1<;>rfl
 have OR:∀{V:Sc},M2 A c V [] []:=λVN y en=>trivial;have K5:∀{V:Sc}{e:Expr}{es:VV}{x:Ex}{M:List Ex}(h1:CE V e x)(h2:pU V es M)(h3:Apart x (bu M)),M1 A c V e x->M2 A c V es M->M2 A c V (e::es) (x::M):=
  λh1 h2 h3 i1 i2 VN y en=>⟨⟨h1,i1 VN y en⟩,h3,i2 VN y en⟩
 have KZ:∀{V:Sc},M3 A c V none (.lit .none):=fun {V} VN y en KK Z s Y LT h I=>by exact O (aE h).symm<|wpAny_evalPart_none<|.val I .refl .none
 have KY:∀ {V:Sc} {e:Expr} {x:Ex} (h1:CE V e x),M1 A c V e x->M3 A c V (some e) x:=λh1 i1 VN y en KK Z s Y LT h I=>wpAny_evalPart_some ((i1 VN y en).1 KK Z s Y LT h I);have OO:∀ {V:Sc} {e:Expr} {x:Ex} (h1:CE V e x),M1 A c V e x->M4 A c V e .seq [x]:=λh1 i1 VN y en=>Iw R (i1 VN y en).1;have FZ:∀ {V:Sc} {p pos:Pos} {e:Expr} {x:Ex} (h0:V.isG "range") (h1:CE V e x),M1 A c V e x→M4 A c V (.Call (.Name "range" p) [e] [] pos) .range [x]:=fun h0 h1 i1 VN y en=>yG R en h0 h1 (i1 VN y en).1;have K9:∀ {V:Sc} {x a:Str} {p pos:Pos} {i:Nat} (h:V.isA x a i),M1 A c V (.Attribute (.Name x p) a pos) (.var i):=λh=>fB (λVN y en=>DC R en h) λaa=>rfl;have OY:∀ {V:Sc} {x a:Str} {p pos:Pos} {i:Nat} (h:V.isA x a i),M1 A c V (.Attribute (.Name x p) a pos) (.pl (.var i)):=λh=>fB (λVN y en=>IP R en h) λaa=>rfl;have F0:∀ {V:Sc} {f:Nat} {d:DefRec} {x:Str} {p ap pos:Pos} {args:VV} {M:List Ex} (h1:tb.fn[f]?=some d∧tb.m0 < f∧tb.rb[f-tb.m0]?=some []) (h2:x=V.sn∧(x == ("__debug__" :Str))=false∧V.ats≠ []) (h3:(ap.endLine == pos.line)=true) (h4:pU V args M) (h5:args.length≤28),M2 A c V args M→M1 A c V (.Call (.Attribute (.Name x p) d.name ap) args [] pos) (.mcall f V.as M):=
  λh1 h2 h3 h4 h5 ih=>fB (λVN y en=>yI R en h1 h2 h3 (p2<|ih VN y en) h5) λaa=>rfl
 have F4:∀{V:Sc}{f:Nat}{d:DefRec}{x:Str}{p p' pos:Pos}{i:Nat}(h1:tb.fn[f]?=some d/\f<tb.m0)(h2:V.isG d.name)(h3:V.isV x i),M1 A c V (.Call (.Name d.name p) [.Name x p'] [] pos) (.callp f i):=λh1 h2 h3=>fB (λVN y en=>yN R en h1 h2 h3) λaa=>rfl;have OM:∀{V:Sc}{s a x:Str}{p ap px pos:Pos}{i j:Nat}(h1:V.isV x j)(h2:V.isA s a i),M1 A c V (.Compare (.Name x px) [.NotIn] [.Attribute (.Name s p) a ap] pos) (.tin i<|.var j):=λh1 h2 VN y en=>⟨ID R en h1 h2,Ia R en h1 h2⟩
 have KW:∀ {V:Sc} {s a x:Str} {p ap px pos:Pos} {i j:Nat} (h1:V.isV x j) (h2:V.isA s a i),M1 A c V (.Subscript (.Attribute (.Name s p) a ap) (.Name x px) pos) (.tget i (.var j)):=λh1 h2=>fB (λVN y en=>Dv R en h1 h2) λaa=>rfl;have OJ:∀ {V:Sc} {p pos:Pos} {a b:Expr} {x z:Ex} (h0:V.isG "zip") (h1:CE V a x) (h2:CE V b z) (h3:Apart x (aY z)),M1 A c V a x→M1 A c V b z→M4 A c V (.Call (.Name "zip" p) [a,b] [] pos) .zip [x,z]:=
  λh0 h1 h2 h3 i1 i2 VN y en=>Iv R en h0 ⟨⟨h1,(i1 VN y en).1⟩,(λi h q=>h3 i h<|(mem_append.mp q).resolve_right Zp),⟨h2,(i2 VN y en).1⟩,(λaa ai q=>by exact nomatch q),trivial⟩
 have K3:∀ {V:Sc} {p pos:Pos} {e:Expr} {x:Ex} (h0:V.isG "enumerate") (h1:CE V e x),M1 A c V e x→M4 A c V (.Call (.Name "enumerate" p) [e] [] pos) .enum [x]:=fun h0 h1 i1 VN y en=>Dr R en h0 h1 (i1 VN y en).1;exact λV q h=>@CQ.rec (λV q aa=>MM A c V q) OT OK RN RO OL K1 OP OS OQ OW K7 RQ OV ON K8 OX OU K6 K4 F3 RP K9 OY F0 F4 OM KW OR K5 KZ KY OO FZ OJ K3 V q h
end
end Mv
namespace Mv
open PySem PyProof.Rows
class inductive TGs(V:Sc):VV->VS->Prop
 |nil:TGs V [] []
 |cons {x:Str} {p:Pos} {i:Nat} {es:VV} {is:VS}:V.isV x i->TGs V es is->TGs V (.Name x p::es) (i::is)
inductive TG(V:Sc):Expr->Tgt->Prop
 |one {x:Str} {p:Pos} {i:Nat}:V.isV x i->TG V (.Name x p) (.one i)
 |tup {es:VV} {is:VS} {k:Nat} {p:Pos}:TGs V es is->TG V (.Tuple es k p) (.tup is)
inductive Sw where
 |st (s:Stmt) (z:St)
 |ss (ss:List Stmt) (zs:List St)
noncomputable def b6(V:Sc):VS:=(List.range tb.an.length).map λk=>V.hi+k
noncomputable def gJ(V:Sc)(x:Str):Sc:= {V with sn:=x,ats:=tb.an.zip<|b6 V,hi:=V.hi+tb.an.length+1}
inductive HS(V:Sc):List ExceptHandler->List (Str×Ex)->Prop
 |nil:HS V [] []
 |cons {cn:Str} {p rp hp:Pos} {e:Expr} {x:Ex} {hs:List ExceptHandler} {M:List (Str×Ex)}:V.isG cn->cn∈tb.hc->CE V e x->HS V hs M->HS V (.ExceptHandler (some<|.Name cn p) none [.Return (some e) rp] hp::hs) ((cn,x)::M)
class inductive CT:Sc->Sw->Prop
 |asg {V:Sc} {x:Str} {p pos:Pos} {aH:Expr} {i:Nat} {e:Ex}:V.isV x i->CE V aH e->CT V (.st (.Assign [.Name x p] aH pos)<|.asg (.one i) e)
 |asgA {V:Sc} {x a:Str} {p p' pos:Pos} {aH:Expr} {i:Nat} {e:Ex}:V.isA x a i->CE V aH e->dR aH=true->CT V (.st (.Assign [.Attribute (.Name x p) a p'] aH pos)<|.asg (.one i) e)
 |setI {V:Sc} {o:Expr} {p' pos:Pos} {aH idx:Expr} {i:Nat} {e k:Ex}:PE V o i->CE V aH e->CE V idx k->CT V (.st (.Assign [.Subscript o idx p'] aH pos)<|.setI (.var i) k e)
 | app {V:Sc} {o:Expr} {fC pos gp:Pos} {e:Expr} {i:Nat} {z:Ex} :PE V o i→CE V e z→(fC.endLine == pos.line)=true→CT V (.st (.Expr (.Call (.Attribute o "append" fC) [e] [] pos) gp) (.app (.var i) z))
 |tab0 {V:Sc} {x a:Str} {p p' dp pos:Pos} {i:Nat}:V.isA x a i->CT V (.st (.Assign [.Attribute (.Name x p) a p'] (.Dict [] [] dp) pos)<|.tab0 i)
 |tset {V:Sc} {x a z:Str} {p ap pz p' pos:Pos} {aH:Expr} {i j:Nat} {e:Ex}:V.isA x a i->V.isV z j->CE V aH e->CT V (.st (.Assign [.Subscript (.Attribute (.Name x p) a ap) (.Name z pz) p'] aH pos)<|.tset i (.var j) e)
 |exp {V:Sc} {e:Expr} {pos:Pos} {z:Ex}:CE V e z->dR e=true->CT V (.st (.Expr e pos)<|.exp z)
 |iff {V:Sc} {t:Expr} {a b:List Stmt} {pos:Pos} {z:Ex} {xa xb:List St}:CE V t z->CT V (.ss a xa)->CT V (.ss b xb)->CT V (.st (.If t a b pos)<|.iff z xa xb)
 |ret {V:Sc} {e:Expr} {pos:Pos} {z:Ex}:CE V e z->CT V (.st (.Return (some e) pos)<|.ret z)
 |retI {V:Sc} {t a b:Expr} {p pos:Pos} {z x y:Ex}:CE V t z->CE V a x->CE V b y->CT V (.st (.Return (some<|.IfExp t a b p) pos)<|.iff z [.ret x] [.ret y])
 |for1 {V:Sc} {g:Expr} {pos:Pos} {cM:Expr} {body:List Stmt} {t:Tgt} {it:gM} {bG:List Ex} {xb:List St} {ct:VS}:TG V g t->(it.pairs=true->t.isTup=true)->IT V cM it bG->CT V (.ss body xb)->CT V (.st (.For g cM body [] pos)<|.for_ t it bG xb ct)
 |whl {V:Sc} {t:Expr} {body:List Stmt} {pos:Pos} {z:Ex} {xb:List St} {ct:VS}:CE V t z->CT V (.ss body xb)->CT V (.st (.While t body [] pos)<|.whl z xb ct)
 |raise {V:Sc} {k MY:Str} {np gT pos ap:Pos} {kk:Nat}:V.isG k->k∈tb.cl->CT V (.st (.Raise (some<|.Call (.Name k np) [.Constant (.str MY) kk ap] [] gT) none pos)<|.raise k)
 |tryx {V:Sc} {pos:Pos} {body:List Stmt} {hs:List ExceptHandler} {xb:List St} {M:List (Str×Ex)}:CT V (.ss body xb)->HS V hs M->hs≠ []->CT V (.st (.Try body hs [] [] pos)<|.tryx xb M)
 |asgT {V:Sc} {es:VV} {is:VS} {k:Nat} {p pos:Pos} {aH:Expr} {e:Ex}:TGs V es is->CE V aH e->dR aH=true->qH aH=true->CT V (.st (.Assign [.Tuple es k p] aH pos)<|.asg (.tup is) e)
 |no {V:Sc} {s:Stmt}:CT V (.st s .no)
 |nil {V:Sc}:CT V (.ss [] [])
 |cons {V:Sc} {s:Stmt} {ss:List Stmt} {z:St} {zs:List St}:CT V (.st s z)->CT V (.ss ss zs)->CT V (.ss (s::ss) (z::zs))
 | new {V:Sc} {c:ClsRec} {x:Str} {p np gT pos:Pos} {args:VV} {M:List Ex} {rest:List Stmt} {body:List St} :tb.cr=some c→V.isG c.name→V.ats=[]∧V.names.lookup x=some .local∧V.vars.lookup x=none∧(x == ("__debug__" :Str))=false→pU V args M→args≠ []∧(∃d,tb.fn[tb.m0]?=some d∧d.name = "__init__")→
   CT (gJ V x) (.ss rest body)->CT V (.ss (.Assign [.Name x p] (.Call (.Name c.name np) args [] gT) pos::rest) [.new tb.m0 (b6 V) M body])
abbrev CS(V:Sc)(s:Stmt)(z:St):Prop:=CT V<|.st s z
abbrev yj(V:Sc)(ss:List Stmt)(zs:List St):Prop:=CT V<|.ss ss zs
variable [Hp]
theorem CG.le{vs:VT}(h:CG i g vs t)(hj:j∈aQ t):i<=j:=by cases h with
 |one=>exact Zj (mem_singleton.mp hj).symm
 |two=>exact(mem_cons.mp hj).elim (λq=>Zj q.symm) λq=>mem_singleton.mp q▸le_succ i
noncomputable def TQ:Sy->VS
 |.e _ x=>aY x
 |.s _ M=>bu M
 |.o _ x=>aY x
 |.i _ _ bG=>bu bG
theorem gf:∀V q,CQ V q-> ∀j∈TQ q,V.hi<=j:=by
 have nil:∀{V:Sc}{j:Nat},j∈([]:VS)->V.hi<=j:=λh=>by cases h
 have app:∀{V:Sc}{a b:VS},(∀j∈a,V.hi<=j)->(∀j∈b,V.hi<=j)-> ∀j∈a++b,V.hi<=j:=λh1 h2 j hj=>(mem_append.mp hj).elim (h1 j)<|h2 j;have comp:∀{V:Sc}{cX cM g:Expr}{vs:VT}{t:Tgt}{ed:VV}{scope:Scope}{i:Nat}{it:gM}{bG aw:List Ex}{x:Ex}(h0:CG i g vs t)(hz:it.pairs=true->t.isTup=true)(h1:IT V cM it bG)(h2:ip scope V vs)(h3:V.hi<=i)(h4:CE (bM scope V vs i) cX x)(h5:pU (bM scope V vs i) ed aw)(h6:∀j∈aQ t,j∉aY x/\j∉bu aw),
   (∀j∈bu bG,V.hi<=j)->(∀j∈aY x,(bM scope V vs i).hi<=j)->(∀j∈bu aw,(bM scope V vs i).hi<=j)-> ∀j∈aY (.comp x t it bG aw),V.hi<=j:=fun {V _ _ _ vs _ _ scope i _ _ _ _} h0 hz h1 h2 h3 h4 h5 h6 i1 i2 i3=>by
  have up:∀j,(bM scope V vs i).hi<=j->V.hi<=j:=λj h=>Zg h3<|Zg (Zl i _) h;exact app (app (app (λj hj=>Zg h3<|h0.le hj) λj hj=>up j<|i2 j hj) i1) λj hj=>up j<|i3 j hj
 exact λV q h=>@CQ.rec (λV q aa=> ∀j∈TQ q,V.hi<=j) (λaa j hj=>nil hj) (λaa j hj=>nil hj) (λaa j hj=>nil hj) (λaa ai j hj=>nil hj) (λaa ai ih=>ih) (λaa ai ih=>ih) (λaa ai br a b=>app a b) (λaa a=>a) (λaa a=>a) (λaa ai br a b=>app a b) (λaa ai br a b e=>app (app a b) e) (λaa a=>a)
  (λaa ai br a b=>app a b) (λaa ai br eH a b e=>app (app a b) e) (λaa ai br eH a=>a) (λaa ai br a=>app a λaa h=>nil h) (λaa ai br a=>app a λaa h=>nil h) comp (λaa ai br eH GP QL a=>a) (λaa ai br eH j hj=>nil hj) (λaa ai a=>a) (λaa j hj=>nil hj) (λaa j hj=>nil hj) (λaa ai br eH GP a=>a) (λaa ai br j hj=>nil hj) (λaa ai j hj=>nil hj) (λaa ai j hj=>nil hj) (λj hj=>nil hj) (λaa ai br a b=>app a b) (λj hj=>nil hj) (λaa a=>a) (λaa a=>app a λaa h=>nil h) (λaa ai a=>app a λaa h=>nil h) (λaa ai br eH a b=>app a<|app b λaa h=>nil h) (λaa ai a=>app a λaa h=>nil h) V q h
section
variable {A:Around}{c:Cfg}{n:Nat}{VN:Env}{V:Sc}{y:Lay}
 {bv bv':VS} {KK af ah ag:VP} {Z au Z₀ Z':VQ} {s s₁ s₀ s':Shared} {Y aj:Fm}
theorem Step.strong(S:Step y bv KK Z s ag Z' s')(en:aJ A V VN y)(h:∀j∈bv,V.hi<=j):Step y [] KK Z s ag Z' s':=
 {S with bind:=λi l v aa hl r=>S.bind i l v (λq=>by have:=h i q;have:=en.hi i l hl;exact(Lf [V.3,i] [Gl .x .y,Gl (.p 1 .y) .x] rfl ‹V.hi<=i› this)) hl r}
theorem aV.strong{LT:VW β×Fm}{v:Value}{TP:VS}(en:aJ A V VN y)(h:∀j∈TP,V.hi<=j)(S:Step y bv ah Z₀ s₀ KK Z s)(x:aV y TP KK Z s LT v s'):aV y bv ah Z₀ s₀ LT v s':=by obtain⟨nm,a,ag,Z',q,e1,I,S',Id⟩:=x;exact⟨nm,a,ag,Z',q,e1,I,S.trans ((S'.strong en h).sub λaa h=>by cases h),Id.mono λb aa ai h=>⟨S.old b h.1,h.2⟩⟩
def Ly(y:Lay)(s₀:Shared)(ag:VP)(Z':VQ)(s':Shared)(f:Flow):bN->Prop
 |.next=>f = .next
 |.ret r=> ∃v,f = .ret v/\eD y ag Z' s₀.heap s'.heap r v/\ ∃d,c5 r=some d
inductive io(y:Lay)(bv:VS)(s₀:Shared)(KK:VP)(Z:VQ)(s:Shared)(LT:VW bN×Fm)(f:Flow)(s':Shared):Prop
 |mk (k:bN) (ag:VP) (Z':VQ):LT.1 = .ok k->Inv y ag Z' s'.heap LT.2->Step y bv KK Z s ag Z' s'->Ly y s₀ ag Z' s' f k->io y bv s₀ KK Z s LT f s'
def SS(A:Around)(c:Cfg)(y:Lay)(bv:VS)(ah:VP)(Z₀:VQ)(s₀:Shared)(m:Sem Flow)(z:List St):Prop:=
 ∀(KK:VP)(Z:VQ)(s:Shared)(Y:Fm)(LT:VW bN×Fm),dD c z Y=some LT->Inv y KK Z s.heap Y->Step y bv ah Z₀ s₀ KK Z s->wpAny (model prog w) A m (io y bv s₀ KK Z s LT) (aV y bv KK Z s LT) s
def mz(A:Around)(c:Cfg)(y:Lay)(bv:VS)(ah:VP)(Z₀:VQ)(s₀:Shared)(m:Sem Flow)(z:St):Prop:=
 ∀(KK:VP)(Z:VQ)(s:Shared)(Y:Fm)(LT:VW bN×Fm),sB c z Y=some LT->Inv y KK Z s.heap Y->Step y bv ah Z₀ s₀ KK Z s->wpAny (model prog w) A m (io y bv s₀ KK Z s LT) (aV y bv KK Z s LT) s
theorem om{x:Ex}{k:Rv->Fm->bF β}{LT:VW β×Fm}{Q:VR}(en:aJ A V VN y)(ce:CE V e x)(H:SE A c y (eval e VN) x)(hk:aT (ev c x Y) k=some LT)(I:Inv y KK Z s.heap Y)(S:Step y bv ah Z₀ s₀ KK Z s)
  (K:∀r av ao aK aC v,ev c x Y=some (.ok r,av)->k r av=some LT->Inv y ao aK aC.heap av->Step y [] KK Z s ao aK aC->Step y bv ah Z₀ s₀ ao aK aC->eD y ao aK s.heap aC.heap r v->Q v aC):
  wpAny (model prog w) A (eval e VN) Q (aV y bv ah Z₀ s₀ LT) s:=by
 refine YS (dw (bv:=aY x) hk .refl (λaa h=>h) (λo e=>H KK Z s Y o e I) λr av ao aK aC v bp h aF aW aa R=>?_) (λv s' q=>q) λaa s' p=>p.strong en (gf V (.e e x) ce) S;exact K r av ao aK aC v bp h aF (aW.strong en<|gf V (.e e x) ce) (S.trans ((aW.strong en<|gf V (.e e x) ce).sub λaa h=>by cases h)) R
theorem uR{x:Ex}{k:Rv->Fm->bF β}{LT:VW β×Fm}{Q:Bool->Shared->Prop}(en:aJ A V VN y)(ce:CE V e x)(H:ST A c y (isTrue e VN<|eval e VN) x)(hk:aT (ev c x Y) k=some LT)(I:Inv y KK Z s.heap Y)(S:Step y bv ah Z₀ s₀ KK Z s)
  (hd:∀r av,k r av=some LT-> ∃d,d6 av r=some d)
  (K:∀r d av ao aK aC,k r av=some LT->d6 av r=some d->Inv y ao aK aC.heap av->Step y bv ah Z₀ s₀ ao aK aC->Q (tD d) aC):
  wpAny (model prog w) A (isTrue e VN<|eval e VN) Q (aV y bv ah Z₀ s₀ LT) s:=by
 refine YS (yH (bv:=aY x) hk .refl (λaa h=>h) hd (λo e hd=>H KK Z s Y o e hd I) λr d av ao aK aC h hd aF aW aa=>?_) (λv s' q=>q) λaa s' p=>p.strong en (gf V (.e e x) ce) S;exact K r d av ao aK aC h hd aF<|S.trans ((aW.strong en<|gf V (.e e x) ce).sub λaa h=>by cases h)
theorem Step.addO(S:Step y bv KK Z s ag Z' s')(e:s.heap.get? a=none):Step y bv KK Z s (addO ag a i) Z' s':=
 ⟨S.sh,S.ext,S.zm,S.zn,λb j q=>by
   by_cases h:b=a
   .exact .inr (h▸e)
   .rw[fL h]at q;exact S.on b j q,S.bind⟩
theorem uT{m:Sem Unit}{r:Rv}{v:Value}{av:Fm}{h₀:Heap}{Q:Unit->Shared->Prop}(pu:∀(l:Loc)(Q:Unit->Shared->Prop),y.loc i=some l->(∀h' tk,CJ y i l v s.heap h'->Q () {s with heap:=h',toks:=tk})->wpAny (model prog w) A m Q E s)(hl:∃l,y.loc i=some l)(hb:i∉c.pin->i∈bv)
  (he:asgT c.pin Y (.one i) r=some av) (I:Inv y KK Z s.heap Y) (S:Step y bv ah Z₀ s₀ KK Z s) (hh:∀a,h₀.get? a=none->s₀.heap.get? a=none) (R:eD y KK Z h₀ s.heap r v)
  (K:∀ag Z' s',(∃h' tk,s'={s with heap:=h',toks:=tk})->(∀l,y.loc i=some l-> ∀a o,a≠l.addr->s.heap.get? a=some o->s'.heap.get? a=some o)->(∀a,ag a≠none->KK a≠none\/v = .ref a)->(∀a,Z' a->Z a)->Inv y ag Z' s'.heap av->Step y bv ah Z₀ s₀ ag Z' s'->Q () s'):wpAny (model prog w) A m Q E s:=by
 refine aB hl λl hl=>?_;simp only[asgT]at he;have z1:=EJ he;have he:=z1.2;have JQ:∀j∈ [i],j∈bv:=λj hj=>by rw[Zr]at hj;subst hj;exact(hb (by simpa using z1.1))
 split at he
 .obtain rfl:=aE he;exact pu _ _ hl λh' tk P=>K KK Z _ ⟨_,_,rfl⟩ (λl' cC=>by rw[hl]at cC;refine O (aE cC).symm ?_;exact P.keep) (λa h=>.inl h) (λa z=>z) (P.fz I hl R)<|S.trans<|(P.step hl I).sub JQ
 .obtain rfl:=aE he;obtain⟨a,R⟩:=R;obtain rfl:=R.1;refine pu _ _ hl λh' tk P=>K (addO KK a i) Z _ ⟨_,_,rfl⟩ (λl' cC=>by rw[hl]at cC;refine O (aE cC).symm ?_;exact P.keep) (λb h=>?_) (λa z=>z) (P.owned I hl R.2.2.1 R.2.2.2.1 R.2.2.2.2.1 R.2.2.2.2.2)<|(S.trans<|(P.step hl I).sub JQ).addO<|hh a R.2.1;by_cases q:b=a
  .subst q;exact .inr rfl
  .rw[fL q]at h;exact .inl h
 .exact am he
theorem m4{r:Rv}{v:Value}{Q:Unit->Shared->Prop}(en:aJ A V VN y)(hv:V.vars.lookup x=some i)(hf:VN.kindOf x≠some .free)(hl:∃l,y.loc i=some l)(hb:i∉c.pin->i∈bv)
  (he:asgT c.pin Y (.one i) r=some av) (I:Inv y KK Z s.heap Y) (S:Step y bv ah Z₀ s₀ KK Z s) (hh:∀a,h₀.get? a=none->s₀.heap.get? a=none) (R:eD y KK Z h₀ s.heap r v)
  (K:∀ag Z' s',(∃h' tk,s'={s with heap:=h',toks:=tk})->(∀l,y.loc i=some l-> ∀a o,a≠l.addr->s.heap.get? a=some o->s'.heap.get? a=some o)->(∀a,ag a≠none->KK a≠none\/v = .ref a)->(∀a,Z' a->Z a)->Inv y ag Z' s'.heap av->Step y bv ah Z₀ s₀ ag Z' s'->Q () s'):wpAny (model prog w) A (storeName VN x v) Q E s:=
 uT (λl Q hl h=>eN en hv hf hl I h) hl hb he I S hh R K
structure dA(A:Around)(V:Sc)(VN:Env)(y:Lay)(c:Cfg)(bv:VS)(ah:VP):Prop where
 en:aJ A V VN y
 nf:∀x i,V.vars.lookup x=some i->VN.kindOf x≠some .free
 bv:∀i,i∉c.pin->i<V.hi->i∈bv
 ni:interactive VN=false
 kd:∀x,VN.kindOf x=V.names.lookup x
 le:VN.locals=y.L
 lv:∀j z,y.loc j=some (.dict y.L z)->V.vars.lookup z≠none\/V.ats≠ []
 sl:V.ats=[]->y.slf=none
theorem dA.loc(ok:dA A V VN y c bv ah)(h:V.vars.lookup x=some i):∃l,y.loc i=some l:=by rcases ok.en.var x i h with⟨_,e⟩|⟨_,c,_,e⟩<;>exact⟨_,e⟩
theorem dA.bvi(ok:dA A V VN y c bv ah)(h:V.vars.lookup x=some i):i∉c.pin->i∈bv:=λhp=>by exact aB (ok.loc h) λl hl=>(ok.bv i hp<|ok.en.hi i l hl)
theorem Io{p:Pos}{e:Ex}(R:Rn A c n)(ok:dA A V VN y c bv ah)(hx:V.isV x i)(ce:CE V aH e):
  mz A c y bv ah Z₀ s₀ (exec (.Assign [.Name x p] aH pos) VN) (.asg (.one i) e):=by
 intro KK Z s Y LT h I S;have h:=(EJ h).2;have plain:swapsWith aH (some<|.Name x p) pos.line VN=pure false->wpAny (model prog w) A (exec (.Assign [.Name x p] aH pos) VN) (io y bv s₀ KK Z s LT) (aV y bv KK Z s LT) s:=λhs=>by refine wpAny_Assign_Name (om ok.en ce (bc R V _ ce VN y ok.en).1 h I .refl λr av ao aK aC v bp h aF aW aO eK=>?_) hs;refine aB (ba h) λkA z2=>?_;exact O (aE z2.2).symm<|m4 ok.en hx.1 (ok.nf x i hx.1) (ok.loc hx.1) (ok.bvi hx.1) z2.1 aF aO (λaa q=>q) eK λag Z' s' aa ai br eH I' S'=>⟨.next,ag,Z',rfl,I',S',rfl⟩
 by_cases hc:dR aH=true
 .exact plain (fD ce hc)
 .cases ce.ci with
  |lit|nm=>exact absurd rfl hc
  |other h _ _=>exact absurd h hc
  |@comp cX cM g vs t gT ed scope j it bG aw z h0 hz h1 h2 h3 h4 h5 h6=>
   have QU:swapsWith (.ListComp cX [⟨g,cM,ed,0⟩] scope gT) (some<|.Name x p) pos.line VN=pure (VN.blockKind == .function&&VN.kindOf x==some .local&&p.line==gT.line
    && !(scope.names.any λ(n,k)=>n==x&&(k == .local||k == .cell))):=rfl
   generalize hb:(VN.blockKind == .function&&VN.kindOf x==some .local&&p.line==gT.line && !(scope.names.any λ(n,k)=>n==x&&(k == .local||k == .cell)))=b at QU;cases b with
   |false=>exact plain QU
   |true=>
    refine O (exec_Assign_Name_used _ _ _ _ QU) ?_;refine YV<|wpAny_standAt<|YV ?_;have all:=bc R;refine ak λG g1=>?_;rcases aN h with⟨e,f,hm,rfl⟩|⟨r,f,hm,h⟩
    .refine g1 ?_;refine YV<|mi (use:=some<|assign (.Name x p) VN) h0 hz R.hh ok.en h2 h3 (all _ _ h1 VN y ok.en) (h1.noFold VN) (λVN y en=>(all _ _ h4 VN y en).1) (λVN y en=>(all _ _ h5 VN y en).imp λaa ai q=>q.2.2) hm I (λaa s' p=>(p.strong ok.en (gf V (.e _ _)<|CQ.comp (pos:=gT) h0 hz h1 h2 h3 h4 h5 h6) .refl).up (λaa h=>h) .refl) λDa C s' ag Z' X dU m ho I' S' R' LC hm G0=>?_;exact nomatch ho
    .refine g1 ?_;refine YV<|mi (use:=some<|assign (.Name x p) VN) h0 hz R.hh ok.en h2 h3 (all _ _ h1 VN y ok.en) (h1.noFold VN) (λVN y en=>(all _ _ h4 VN y en).1) (λVN y en=>(all _ _ h5 VN y en).imp λaa ai q=>q.2.2) hm I (λe s' p=>p.elim) λDa C s' ag Z' X dU m ho I' S' R' LC jC G0=>?_;cases ho;refine aB (ba h) λkA z3=>?_;have h:=z3.2;refine O (aE h).symm ?_;refine wpAny_assign_Name<|m4 ok.en hx.1 (ok.nf x i hx.1) (ok.loc hx.1) (ok.bvi hx.1) z3.1 I' ((S'.strong ok.en<|gf V (.e _ _) (.comp h0 hz h1 h2 h3 h4 h5 h6:CE V (.ListComp cX [⟨g,cM,ed,0⟩] scope gT) (.comp z t it bG aw))).sub λaa h=>by exact nomatch h) (λaa q=>q) R' λy2 Pa mG Tk UT Q0 hZ Sh R9=>?_;obtain⟨l,hl⟩:=ok.loc hx.1;have Vc:C≠l.addr:=λq=>LC.2.1<|.inr<|.inr ⟨i,l,hl,q.symm⟩;have vp:∀b,b=C-> ¬y.wr y2 b/\ ¬y.F b/\ ¬Pa b:=λb q=>by
      subst q;refine⟨λq=>?_,LC.2.2.1,λq=>LC.2.2.2.1<|hZ _ q⟩;rcases q with q|q
      .rcases Q0 _ q with q|q
       .exact LC.2.1 (.inl q)
       .injection q with q;subst q;exact G0 rfl
      .exact LC.2.1 (.inr q)
     refine⟨m,(jC.at' λo ho=>UT l hl C o Vc ho),λh' hs=>YR<|YR ?_⟩;have kp:∀b o, ¬b=C->mG.heap.get? b=some o->h'.get? b=some o:=λb o q e=>hs.extBut b o q e;exact⟨.next,y2,Pa,rfl,Sh.other vp kp,R9.other (tk:=mG.toks) (Id:=λb=>b=C) (λb q=>⟨q▸LC.1,(vp b q).1⟩) kp,rfl⟩
theorem Dl{a:Str}{p:Pos}{e:Ex}(R:Rn A c n)(ok:dA A V VN y c bv ah)(hx:V.isA x a i)(ce:CE V aH e)(hc:dR aH=true):
  mz A c y bv ah Z₀ s₀ (exec (.Assign [.Attribute (.Name x p) a p'] aH pos) VN) (.asg (.one i) e):=by
 intro KK Z s Y LT h I S;have h:=(EJ h).2;refine er (ok.en.ins hx.ne) λpp dx J=>?_;have hl:=(J.an a i hx.at').2;refine plainObj_wpAny_Assign_Attribute (om ok.en ce (bc R V _ ce VN y ok.en).1 h I .refl λr av ao aK aC v bp h aF aW aO eK=>?_)<|fD ce hc;refine iB J ok.en aF hx.sn hx.db ?_;refine aB (ba h) λkA z4=>?_;have h:=z4.2;exact O (aE h).symm<|uT (λl Q hl h=>m3 R.gd J hx hl aF h) ⟨_,hl⟩ (λhp=>ok.bv i hp<|ok.en.hi i _ hl) z4.1 aF aO (λaa q=>q) eK λag Z' s' aa ai br eH I' S'=>⟨.next,ag,Z',rfl,I',S',rfl⟩
theorem wC{Q:Unit->Shared->Prop}(ok:dA A V VN y c bv ah):∀{es:VV}{is:VS},TGs V es is-> ∀{vs:VU}{X:VX}{Y av:Fm}{s:Shared}{KK:VP}{Z:VQ},aq s.heap Z vs X->mT c.pin Y is X=some av->Inv y KK Z s.heap Y->
  (∀s',(∃h' tk,s'={s with heap:=h',toks:=tk})->Inv y KK Z s'.heap av->Step y bv KK Z s KK Z s'->Q () s')->wpAny (model prog w) A (assignInOrder ((assignEach es VN).map (·.2)) vs) Q E s:=by
 intro es is t;induction t with
 |nil=>intro vs X Y av s KK Z R h I K;cases X with
  |nil=>obtain rfl:=aE h;exact assignInOrder_nil<|K s ⟨_,_,rfl⟩ I .refl
  |cons d X=>exact am h
 |@cons _ _ i _ is hx t ih=>intro vs X Y av s KK Z R h I K;cases R with
  |nil=>exact am h
  |@cons v vs d X r R=>
   have h:(if c.pin.contains i then none else mT c.pin (Y.set i<|.fz d) is X)=some av:=h;by_cases q:c.pin.contains i=true
   .rw[YX q]at h;exact am h
   rw[YY q]at h;refine aB (ok.loc hx.1) λl hl=>?_;refine assignInOrder_cons<|wpAny_assign_Name<|eN ok.en hx.1 (ok.nf _ i hx.1) hl I λh' tk P=>?_;have S1:Step y bv KK Z s KK Z {s with heap:=h',toks:=tk}:=(P.step hl I).sub λj hj=>by exact O (mem_singleton.mp hj)<|ok.bvi hx.1 λz=>q<|contains_iff_mem.mpr z
   refine ih (S1.repAll I R) h (P.fz I hl r) λs' sh I' S'=>K s' ?_ I'<|S1.trans S';refine er sh λh2 Qh sh=>?_;subst sh;exact⟨_,_,rfl⟩
theorem TGs.len{is:VS}(t:TGs V es is):(assignEach es VN).length=is.length/\(assignEach es VN).findIdx? (·.1)=none:=by induction t with
 |nil=>exact⟨rfl,rfl⟩
 |cons _ _ t=>refine⟨Y2 (· + 1) t.1,?_⟩;refine O (List.findIdx?_cons) ?_;simp[t.2]
theorem B6:∀{is:VS}{X:VX}{Y av:Fm},mT pin Y is X=some av->is.length=X.length:=by intro is X Y av h;induction is generalizing X Y av with
 |nil=>cases X with
  |nil=>exact rfl
  |cons x1 x2=>exact am h
 |cons i is ih=>cases X with
  |nil=>exact am h
  |cons d X=>
    have h:(if pin.contains i then none else mT pin (Y.set i<|.fz d) is X)=some av:=h;by_cases q:pin.contains i=true
    .rw[YX q]at h;exact am h
    .rw[YY q]at h;exact Y2 (· + 1)<|ih h
theorem uK{v:Value}{d:D}{Y av:Fm}{Q:Unit->Shared->Prop}(ok:dA A V VN y c bv ah)(hh:A.handled=none)(tg:TG V g t)(he:asgT c.pin Y t (.fz d)=some av)(I:Inv y KK Z s.heap Y)(R:bE s.heap Z v d)
  (K:∀s',(∃h' tk,s'={s with heap:=h',toks:=tk})->Inv y KK Z s'.heap av->Step y bv KK Z s KK Z s'->Q () s'):wpAny (model prog w) A (assign g VN v) Q E s:=by
 cases tg with
 |@one x p i hx=>obtain⟨q,rfl⟩:=PI he;obtain⟨l,hl⟩:=ok.loc hx.1;exact wpAny_assign_Name<|eN ok.en hx.1 (ok.nf _ i hx.1) hl I λh' tk P=>K _ ⟨_,_,rfl⟩ (P.fz I hl R) ((P.step hl I).sub λj hj=>by refine O (mem_singleton.mp hj) ?_;exact ok.bvi hx.1 λz=>q<|contains_iff_mem.mpr z)
 |tup t=>cases R with
  |@tuple a vs n X z ht hn R=>refine assign_Tuple_tuple hh ⟨_,ht,rfl,_,rfl⟩ (O t.len.1<|O (B6 he)<|O Zo<|O R.length rfl) t.len.2 λh' ext=>?_;have kp:∀b o,s.heap.get? b=some o->h'.get? b=some o:=λb o e=>ext b o (Zc<|ZZ e) e;refine wC (s:= {s with heap:=h'}) ok t (R.mono (λb o aa=>kp b o) λaa z=>z) he (I.grow kp) λs' sh I' S'=>K s' ?_ I'<|(Step.grow (tk:=s.toks) kp).trans S';obtain⟨h2,Qh,rfl⟩:=sh;exact⟨_,_,rfl⟩
  |_=>exact am he
theorem io.from{LT:VW bN×Fm}{f:Flow}{dQ:Shared}(S:Step y bv KK Z s ag Z' s')(p:io y bv s₀ ag Z' s' LT f dQ):io y bv s₀ KK Z s LT f dQ:=by obtain⟨k,o,z,e,I,S',r⟩:=p;exact⟨k,o,z,e,I,S.trans S',r⟩
theorem I2{o:Option D}(h:I5 o=true):∃M,o=some (.list M):=by
 rcases o with _|d
 .exact tf h
 .cases d with
  |list M=>exact⟨M,rfl⟩
  |_=>exact tf h
theorem Lg{o:Option D}{Y:Fm}{p:Pl}{d:D}{LT:VW bN×Fm}(h:Lh o Y p d=some LT):∃M,o=some (.list M)/\M.length<Sz/\(.ok .next,qy Y p<|.list<|M++[d])=LT:=by
 rcases o with _|e
 .exact am h
 .cases e with
  |list M=>exact⟨M,rfl,ed h⟩
  |_=>exact am h
theorem IA{o k d o':D}(h:Du o k d=some o'):∃kvs x,o = .dict kvs/\k = .str x/\kvs.length<Sz/\ .dict (dO kvs x d)=o':=by cases o with
 |dict kvs=>cases k with
  |str x=>exact⟨kvs,x,rfl,rfl,ed h⟩
  |_=>exact am h
 |_=>exact am h
theorem IV{r:Rv}{Y:Fm}{LT:VW bN×Fm}(h:IW r Y=some LT):(∀p,r≠ .pl p)/\LT=(.ok<|.ret r,Y):=by cases r with
 |pl p=>exact am h
 |fz d=>exact⟨λaa q=>(nomatch q),(aE h).symm⟩
 |KK d=>exact⟨λaa q=>(nomatch q),(aE h).symm⟩
theorem Ip{o:Expr}{gp:Pos}(R:Rn A c n)(ok:dA A V VN y c bv ah)(hx:PE V o i)(ce:CE V e z)(hp:(fC.endLine==pos.line)=true):
  mz A c y bv ah Z₀ s₀ (exec (.Expr (.Call (.Attribute o "append" fC) [e] [] pos) gp) VN) (.app (.var i) z):=by
 intro KK Z s Y LT h I S;have hs:=AE h;refine ak λG6 g6=>?_;obtain⟨Ry,AQ⟩:=I2 hs.1;obtain⟨l,v,hl,hr,a,rfl,oa,W⟩:=I.at' i _ (iv AQ) (λq=>Slot.noConfusion q);refine g6 ?_;refine wpAny_Expr_any (wpAny_Call_append (yY hx) (by refine O (ce.star VN []) ?_;rfl) hp (by refine O (ce.star VN []) ?_;rfl)<|u9 R.gd ok.en I hx hl hr rfl λtk=>?_) ok.ni rfl;refine ak λG7 g7=>?_;cases W with
 |@list vs m X hil hz RA=>refine g7 ?_;refine⟨a,_,rfl,⟨_,_,hil,rfl,rfl,rfl⟩,?_⟩;refine om (s:= {s with toks:=tk}) ok.en ce (bc R V _ ce VN y ok.en).1 hs.2 I (aP (tk:=tk) .refl) λr av ao aK aC v bp h aF aW aO eK=>?_;refine aB (ba h) λd hd=>aB (Lg hd.2) λM QQ=>?_;refine O QQ.2.2.symm ?_;refine ak λG g=>?_;obtain⟨gH,fW,iT,uF⟩:=eK.freeze aF aW hd.1;obtain⟨l3,v3,NT,JR,a3,rfl,Jf,Lk⟩:=fW.at' i _ (iv QQ.1) (λq=>Slot.noConfusion q);rw[hl]at NT;obtain rfl:=aE NT;obtain q:=(aW.bind i l _ (by intro q;cases q) hl hr).det JR;cases q;cases Lk with
  |@list vs m X hil hz RA=>
   refine g ?_;refine append_at (hsz:=by refine O Zo<|O bW.symm ?_;exact hz) hil λh' pV lc=>?_;have kz:∀b o,gH b->aC.heap.get? b=some o->h'.get? b=some o:=λb o z e=>pV.extBut b o (λq=>by have:=fW.zo b z;rw[q]at this;have this:=Jf▸this;cases this) e;have Cf:cT h' gH a (.list<|M++[d]):=by refine .list (vs:=vs++[v]) (n:=m+1) (by simpa using lc) ?_<|(RA.mono kz λaa z=>z).append<|.cons (uF.mono kz λaa z=>z) .nil;refine O ZI<|O RA.length ?_;simp;exact QQ.2.1
   exact⟨.next,ao,gH,rfl,(jv fW hl JR Jf pV Cf).1,((aP (tk:=tk) .refl).trans (iT.sub λaa h=>by cases h)).trans ((jv fW hl JR Jf pV Cf).2.sub λaa h=>by cases h),rfl⟩
theorem Dh{ob:Expr}{idx:Expr}{k:Ex}(R:Rn A c n)(ok:dA A V VN y c bv ah)(hx:PE V ob i)(ce:CE V aH z)(ck:CE V idx k):
  mz A c y bv ah Z₀ s₀ (exec (.Assign [.Subscript ob idx p'] aH pos) VN) (.setI (.var i) k z):=by
 intro KK Z s Y LT h I S;refine wpAny_Assign_Subscript (om ok.en ce (bc R V _ ce VN y ok.en).1 h I .refl λr aj af au s₁ v bp h ax aW S' xV=>?_)<|mZ ce;have hs:=AE h;refine ak λG5 g5=>?_;refine aB (isSome_iff_exists.mp hs.1) λRy AQ=>?_;obtain⟨l,Qd,hl,hr,a,rfl,oa,W⟩:=ax.at' i _ (iv AQ) (λq=>Slot.noConfusion q);refine g5 ?_;refine u9 R.gd ok.en ax hx hl hr rfl λtk=>?_;refine om (s:= {s₁ with toks:=tk}) ok.en ck (bc R V _ ck VN y ok.en).1 hs.2 ax (aP (tk:=tk) S') λrk av ao aK aC vk j7 h aF aO Ma eK=>?_;refine aB (ba h) λd hd=>aB (ba hd.2) λkd Tu=>aB (ba Tu.2) λo ho=>aB (ba ho.2) λo' NM=>?_;refine O (aE NM.2).symm ?_;refine ak λG2 g2=>?_;obtain⟨X,k,rfl,rfl,hj,rfl⟩:=IA NM.1;obtain⟨gH,fW,iT,uF⟩:=(aO.rv ax (d5 hd.1) xV).freeze aF ((aP (tk:=tk) aW).trans aO) hd.1;obtain⟨l3,v3,NT,JR,a3,rfl,Jf,Lk⟩:=fW.at' i _ (iv ho.1) (λq=>Slot.noConfusion q);rw[hl]at NT;obtain rfl:=aE NT;obtain q:=(aO.bind i l _ (by intro q;cases q) hl hr).det JR;cases q;obtain⟨t,rfl,Up,Uo⟩:=(eK.dat aF<|dN Tu.1).str;cases Lk with
 |@dict kvs X jf hz RK=>refine g2 ?_;refine wpAny_setItem_pairs (knd:=strKind prog w) (strKind_is _ _ k t) jf.2 (λh' cQ pV=>?_) (by refine O bW.symm ?_;exact hz);have kz:∀b o,gH b->aC.heap.get? b=some o->h'.get? b=some o:=λb o z e=>pV.extBut b o (λq=>by have:=fW.zo b z;rw[q]at this;have this:=Jf▸this;cases this) e;have TZ:=(RK.mono kz λaa z=>z).set Up Uo<|uF.mono kz λaa z=>z;have Cf:cT h' gH a (.dict<|dO X k d):=.dict ⟨jf.1,cQ⟩ (by refine O TZ.length ?_;exact Zg (xu k d X) hj) TZ;exact⟨.next,ao,gH,rfl,(jv fW hl JR Jf pV Cf).1,aP<|(iT.sub λaa h=>by cases h).trans ((jv fW hl JR Jf pV Cf).2.sub λaa h=>by cases h),rfl⟩
theorem Il(R:Rn A c n)(ok:dA A V VN y c bv ah)(ce:CE V e z)(hc:dR e=true):mz A c y bv ah Z₀ s₀ (exec (.Expr e pos) VN) (.exp z):=by intro KK Z s Y LT h I S;refine wpAny_Expr_any (om ok.en ce (bc R V _ ce VN y ok.en).1 h I .refl λr aj af au s₁ v bp h ax aW S' xV=>?_) ok.ni<|fD ce hc;exact O (aE h).symm<|⟨.next,af,au,rfl,ax,S',rfl⟩
theorem sW{LT:VW bN×Fm}(R:Rn A c n)(ok:dA A V VN y c bv ah)(ce:CE V e z)(h:sB c (.ret z) Y=some LT)(I:Inv y KK Z s.heap Y)(S:Step y bv ah Z₀ s₀ KK Z s):wpAny (model prog w) A (eval e VN) (λv s'=>io y bv s₀ KK Z s LT (.ret v) s') (aV y bv KK Z s LT) s:=by
 refine(om ok.en ce (bc R V _ ce VN y ok.en).1 h I .refl λr aj af au s₁ v bp h ax aW S' xV=>?_);have de:=IV h;refine O de.2 ⟨.ret r,af,au,rfl,ax,S',v,rfl,xV.since S.old,?_⟩;rcases ub bp with q|⟨p,q,_⟩
 .exact q
 .exact absurd q (de.1 p)
theorem Ig(R:Rn A c n)(ok:dA A V VN y c bv ah)(ce:CE V e z):mz A c y bv ah Z₀ s₀ (exec (.Return (some e) pos) VN) (.ret z):=
 λaa ai br eH GP h I S=>wpAny_Return_some<|sW R ok ce h I S
theorem rH{LT:VW bN×Fm}(h:dD c [.ret z] Y=some LT):sB c (.ret z) Y=some LT:=by rw[j8]at h;rcases q:sB c (.ret z) Y with _|⟨_|⟨_|r⟩,f⟩<;>rw[q]at h<;>exact h
set_option tactic.hygienic true in
theorem Di{t a b:Expr}{p:Pos}{x u:Ex}(R:Rn A c n)(ok:dA A V VN y c bv ah)(ce:CE V t z)(ca:CE V a x)(cb:CE V b u):mz A c y bv ah Z₀ s₀ (exec (.Return (some<|.IfExp t a b p) pos) VN) (.iff z [.ret x] [.ret u]):=by
 intro KK Z s Y LT h I S;refine wpAny_Return_some<|IfExp_<|uR ok.en ce (bc R V _ ce VN y ok.en).2 h I .refl (λr av h=>?_) λr d av ao aK aC h hd aF aO=>?_
 .exact aB (ba h) λaa z=>⟨_,z.1⟩
 .rw[hd,wJ]at h;split at h
  .rename_i ht;rw[YX ht];exact YS (sW R ok ca (rH h) aF<|S.trans aO) (λfl dQ p=>p.from aO) λaa ai x=>x.sub (λaa h=>h) aO
  .rename_i ht;rw[YY ht];exact YS (sW R ok cb (rH h) aF<|S.trans aO) (λfl dQ p=>p.from aO) λaa ai x=>x.sub (λaa h=>h) aO
theorem Ih:SS A c y bv ah Z₀ s₀ (execs [] VN) []:=by intro KK Z s Y LT h I S;exact O (aE h).symm<|wpAny_execs_nil ⟨.next,KK,Z,rfl,I,.refl,rfl⟩
theorem Dj{st:Stmt}{ss:List Stmt}{z:St}{zs:List St}(H1:mz A c y bv ah Z₀ s₀ (exec st VN) z)(H2:SS A c y bv ah Z₀ s₀ (execs ss VN) zs):SS A c y bv ah Z₀ s₀ (execs (st::ss) VN) (z::zs):=by
 intro KK Z s Y LT h I S;rw[j8]at h;refine wpAny_execs_cons ?_;refine ak λG g=>?_;rcases aN h with⟨e,f,hm,rfl⟩|⟨k,f,hm,h⟩
 .refine g ?_;refine YS (H1 KK Z s Y _ hm I S) (λfl s' p=>?_) λaa ai x=>x;obtain⟨_,_,_,q,_⟩:=p;exact mI q
 .refine g ?_;refine YS (H1 KK Z s Y _ hm I S) (λfl s' p=>?_) λaa ai x=>x.elim;obtain⟨k',ag,Z',q,I',S',r⟩:=p;obtain rfl:=jk q;cases k with
  |next=>cases r;refine YS (H2 ag Z' s' f LT h I'<|S.trans S') (λfl dQ p=>?_) λaa ai x=>x.sub (λaa h=>h) S';exact p.from S'
  |ret rv=>refine O (aE h).symm ?_;obtain⟨v,r⟩:=r;exact O r.1<|⟨.ret rv,ag,Z',rfl,I',S',v,rfl,r.2⟩
set_option tactic.hygienic true in
theorem Ij{t:Expr}{a b:List Stmt}{xa xb:List St}(R:Rn A c n)(ok:dA A V VN y c bv ah)(ce:CE V t z)(Ha:SS A c y bv ah Z₀ s₀ (execs a VN) xa)(Hb:SS A c y bv ah Z₀ s₀ (execs b VN) xb):
  mz A c y bv ah Z₀ s₀ (exec (.If t a b pos) VN) (.iff z xa xb):=by
 intro KK Z s Y LT h I S;refine wpAny_If<|uR ok.en ce (bc R V _ ce VN y ok.en).2 h I .refl (λr av h=>?_) λr d av ao aK aC h hd aF aO=>?_
 .exact aB (ba h) λaa z=>⟨_,z.1⟩
 .rw[hd,wJ]at h;split at h
  .rename_i ht;rw[YX ht];exact YS (Ha ao aK aC av LT h aF<|S.trans aO) (λfl dQ p=>p.from aO) λaa ai x=>x.sub (λaa h=>h) aO
  .rename_i ht;rw[YY ht];exact YS (Hb ao aK aC av LT h aF<|S.trans aO) (λfl dQ p=>p.from aO) λaa ai x=>x.sub (λaa h=>h) aO
theorem mz.of{m:Sem Flow}{z:St}(H:∀(KK:VP)(Z:VQ)(s:Shared)(Y:Fm)(LT:VW bN×Fm)(Q:Flow->Shared->Prop)(E:VR),(∀f s',io y bv s₀ KK Z s LT f s'->Q f s')->(∀e s',aV y bv KK Z s LT e s'->E e s')->
  sB c z Y=some LT->Inv y KK Z s.heap Y->Step y bv ah Z₀ s₀ KK Z s->wpAny (model prog w) A m Q E s):mz A c y bv ah Z₀ s₀ m z:=λKK Z s Y LT h I S=>H KK Z s Y LT _ _ (λaa ai p=>p) (λaa ai p=>p) h I S
inductive Pu(y:Lay)(bv:VS)(KK:VP)(Z:VQ)(s:Shared)(ac:VX)(fp wr:List Addr)(P:Nat->vW->Prop)(St:Nat->Heap->Prop)(c:Cfg)(t:Tgt)(xb:List Mv.St)(ct:VS)(LT:VW bN×Fm)(m:Nat)(s':Shared):Prop
 |mk (k:Nat) (ag:VP) (Z':VQ) (dU:Fm):m=ac.length+1-k->k<=ac.length->Inv y ag Z' s'.heap dU->Step y bv KK Z s ag Z' s'->iS y ac fp wr P St s.heap ag Z' s'.heap k->
   cm c dU t xb ct (ac.drop k)=some LT->Pu y bv KK Z s ac fp wr P St c t xb ct LT m s'
theorem TG.gok{it:gM}(h:TG V g t)(hz:it.pairs=true->t.isTup=true):PQ it g:=λq=>by cases h with
 |one=>cases hz q
 |tup=>exact⟨_,_,_,rfl⟩
theorem Ik{it:gM}{xb:List St}(R:Rn A c n)(ok:dA A V VN y c bv ah)(tg:TG V g t)(hz:it.pairs=true->t.isTup=true)(fU:IT V cM it bG)(Hb:SS A c y bv ah Z₀ s₀ (execs body VN) xb):
  mz A c y bv ah Z₀ s₀ (exec (.For g cM body [] pos) VN) (.for_ t it bG xb ct):=by
 refine mz.of λKK Z s Y LT Q E kQ kE h I S=>?_;rw[Fe]at h;cases fX:c.hd with
 |true=>have h:=fX▸h;exact am h
 |false=>
 rw[fX,YY Z7]at h;refine wpAny_For ?_<|fU.noFold VN;refine ak λG g1=>?_;rcases aN h with⟨e,f,hm,rfl⟩|⟨rs,aj,hm,h⟩
 .refine g1 ?_;refine YS ((bc R _ _ fU VN y ok.en) KK Z s Y _ hm (λrs q=>by exact mI q) fX I) (λx s₁ p=>YS p (λLW aC p=>?_) λaa ai x=>kE _ _<|(x.strong ok.en (gf V _ fU) .refl).up (λaa h=>h) .refl) λaa ai x=>kE _ _<|(x.strong ok.en (gf V _ fU) .refl).up (λaa h=>h) .refl;obtain⟨_,_,_,_,_,_,_,_,_,_,q,_⟩:=p;exact mI q
 .refine g1 ?_;refine aB (ba h) λX h=>?_;have jf:=h.1
  .refine aB (ba h.2) λac h=>?_;have AN:=h.1;have h:=h.2
   .refine YS ((bc R _ _ fU VN y ok.en) KK Z s Y _ hm (λrs q=>by refine O (jk q).symm ?_;exact⟨X,ac,jf,AN⟩) fX I) (λxv s₁ p=>YS p (λLW aC p=>?_) λaa ai x=>x.elim) λaa ai x=>x.elim;obtain⟨LQ,iH,JI,af,au,It,fp,wr,P,St,q,AR,rf,eZ,rfl,aF,aO,W,WA⟩:=p;refine ak λG1 g2=>?_;obtain rfl:=jk q;rw[jf]at AR;obtain rfl:=aE AR;rw[AN]at rf;obtain rfl:=aE rf;refine g2 ?_;refine JX (Pu y bv KK Z s ac fp wr P St c t xb ct LT) λJ je ji=>?_;refine codeAny_forLoop_any J ?_ (ac.length+1)<|ji _ _ ⟨0,af,au,aj,rfl,Y7 _,aF,((aO.strong ok.en<|gf V _ fU).sub λaa h=>by exact nomatch h),WA,by refine O drop_zero ?_;exact h⟩;intro m s' jq;obtain⟨k,ag,Z',dU,rfl,hk,I',S',HC,hh⟩:=je _ _ jq;clear jq je;by_cases CF:k<ac.length
    .have hd:ac[k]?=some ac[k]:=ZK CF;rw[List.drop_eq_getElem_cons CF]at hh;generalize ac[k]=d at hd hh;rw[xd]at hh;refine nq W (tg.gok hz) HC I' S' hd (λaa ai p=>p) λval sP Ce aa vS vR Gs Gg ai br=>?_;refine aB (ba hh) λfr₆ hh=>?_;have he:=hh.1;have hh:=hh.2
     .refine uK ok (R.hh fX) tg he (Gs.clr ct) vS λMm aa pS xU=>?_;have r4:=Gg.trans xU;refine ak λG3 g4=>?_;rcases aN hh with⟨e,f,hm,rfl⟩|⟨kk,f,hm,hh⟩
      .exact g4 (YS (Hb ag Ce Mm fr₆ _ hm pS<|S.trans r4) (λfl sO p=>by obtain⟨_,_,_,q,_⟩:=p;exact mI q) λaa ai x=>lR ok.en kE<|x.up (λaa h=>h) r4)
      .refine g4 ?_;refine YS (Hb ag Ce Mm fr₆ _ hm pS<|S.trans r4) (λfl sO p=>?_) λaa ai x=>x.elim;obtain⟨k',gu,pP,q,kh,mu,r⟩:=p;obtain rfl:=jk q;dsimp only at kh;cases kk with
       |next=>subst r;exact⟨ac.length+1-(k+1),ly hk,ji _ _ ⟨k+1,gu,pP,f,rfl,CF,kh,r4.trans mu,(vR.step W (Gs.clr ct) xU).step W pS mu,hh⟩⟩
       |ret rv=>obtain rfl:=aE hh;obtain⟨v,r⟩:=r;exact O r.1<|kQ _ _ ⟨.ret rv,gu,pP,rfl,kh,r4.trans mu,v,rfl,r.2⟩
    .have LY:k=ac.length:=Zk hk<|Nat.not_lt.mp CF;subst LY;have hh:=List.drop_length▸hh;rw[bb]at hh;obtain rfl:=aE hh;refine nt W HC I' S' λdQ Cv Ma kp aa=>wpAny_execs_nil<|kQ _ _ ⟨.next,ag,Z',rfl,Cv.clr ct,Ma,rfl⟩
inductive Pb(y:Lay)(bv:VS)(KK:VP)(Z:VQ)(s:Shared)(c:Cfg)(z:Ex)(xb:List Mv.St)(ct:VS)(LT:VW bN×Fm)(m:Nat)(s':Shared):Prop
 |mk (ag:VP) (Z':VQ) (dU:Fm):Inv y ag Z' s'.heap dU->Step y bv KK Z s ag Z' s'->yb c dU z xb ct m=some LT->Pb y bv KK Z s c z xb ct LT m s'
theorem Ie{t:Expr}{xb:List St}(R:Rn A c n)(ok:dA A V VN y c bv ah)(ce:CE V t z)(Hb:SS A c y bv ah Z₀ s₀ (execs body VN) xb):
  mz A c y bv ah Z₀ s₀ (exec (.While t body [] pos) VN) (.whl z xb ct):=by
 refine mz.of λKK Z s Y LT Q E kQ kE h I S=>?_;rw[Fc]at h;cases fX:c.hd with
 |true=>rw[fX]at h;exact am h
 |false=>
 rw[fX]at h;have h:=(YY Z7)▸h;refine JX (Pb y bv KK Z s c z xb ct LT) λJ je ji=>?_;refine wpAny_While<|codeAny_whileLoop J (λm s' hI=>?_) Wz<|ji _ _ ⟨KK,Z,Y,I,.refl,h⟩;obtain⟨ag,Z',dU,I',S',hh⟩:=je _ _ hI;clear hI je;cases m with
 |zero=>exact am hh
 |succ m=>
  rw[yo]at hh;rcases aN hh with⟨e,f,hm,rfl⟩|⟨b,f,hm,hh⟩
  .exact YS (uR (Q:=λaa ai=>False) (bv:=bv) ok.en ce (bc R V _ ce VN y ok.en).2 hm (I'.clr ct) .refl (λr av h=>aB (ba h) λd z=>⟨d,z.1⟩) λr d av ao aK aC h hd aF aO=>by have h:=hd▸h;cases h) (λaa ai q=>q.elim) λaa ai x=>lR ok.en kE<|x.up (λaa h=>h) S'
  refine YS (uR (bv:=bv) ok.en ce (bc R V _ ce VN y ok.en).2 hm (I'.clr ct) .refl (λr av h=>?_) λr d av ao aK aC h hd aF aO=>?_) (λaa ai q=>q) λaa ai x=>x.elim
  .exact aB (ba h) λd z=>⟨d,z.1⟩
  .rw[hd]at h;have u:=wB h;obtain rfl:=u.1;obtain rfl:=u.2;have i5:=S'.trans aO;cases hb:tD d with
   |false=>rw[hb]at hh;obtain rfl:=aE hh;exact O (YY Z7)<|wpAny_execs_nil<|kQ _ _ ⟨.next,ao,aK,rfl,aF,i5,rfl⟩
   |true=>
    have hh:=hb▸hh;refine O (YX rfl) ?_;rcases aN hh with⟨e,f',jC,rfl⟩|⟨kk,f',jC,hh⟩
    .exact YS (Hb ao aK aC _ _ jC aF<|S.trans i5) (λfl sO p=>by obtain⟨_,_,_,q,_⟩:=p;exact mI q) λaa ai x=>lR ok.en kE<|x.up (λaa h=>h) i5
    refine YS (Hb ao aK aC _ _ jC aF<|S.trans i5) (λfl sO p=>?_) λaa ai x=>x.elim;obtain⟨k',gu,pP,q,kh,mu,r⟩:=p;obtain rfl:=jk q;cases kk with
    |next=>cases r;exact⟨m,lt_succ_self m,ji _ _ ⟨gu,pP,f',kh,i5.trans mu,hh⟩⟩
    |ret rv=>obtain rfl:=aE hh;obtain⟨v,r⟩:=r;exact O r.1<|kQ _ _ ⟨.ret rv,gu,pP,rfl,kh,i5.trans mu,v,rfl,r.2⟩
open Classical in
theorem De{a z:Str}{p pz:Pos}{e:Ex}(R:Rn A c n)(ok:dA A V VN y c bv ah)(ha:V.isA x a i)(hz:V.isV z j)(ce:CE V aH e):
  mz A c y bv ah Z₀ s₀ (exec (.Assign [.Subscript (.Attribute (.Name x p) a ap) (.Name z pz) p'] aH pos) VN) (.tset i (.var j) e):=by
 intro KK Z s Y LT h I S;refine wpAny_Assign_Subscript (om ok.en ce (bc R V _ ce VN y ok.en).1 h I .refl λr aj af au s₁ v bp h ax aW S' xV=>?_)<|mZ ce;rcases aN h with⟨_,f,hm,_⟩|⟨rk,av,hm,h⟩
 .obtain⟨_,_,q,_⟩:=jT hm;cases q
 obtain⟨k,f,q,hf⟩:=jT hm;cases q;refine aB (ba h) λd h=>?_;have hd:=h.1
 .refine aB (ba h.2) λk' h=>?_;obtain rfl:=aE h.1;refine aB (ba h.2) λX h=>?_;have ht:=h.1;obtain⟨⟨ko,kn,ln⟩,rfl⟩:=ed h.2;refine ak λG g=>?_;obtain⟨gH,fW,iT,uF⟩:=xV.freeze ax S' hd;obtain⟨l,t,_,hl,hr,_⟩:=fW.tabIn<|hf i X<|gW ht;refine g ?_;refine eW R.gd ok.en fW ha hl hr rfl λtk=>?_;refine YS (jU ok.en hz af gH {s₁ with toks:=tk} aj _ hm fW) (λvk aC p=>?_) λaa ai x=>x.elim;refine ak λG g=>?_;obtain⟨r',ao,aK,q,aF,aO,eK⟩:=p;obtain rfl:=jk q;have eK:bE aC.heap aK vk k:=eK;obtain⟨b,rfl⟩:=eK.keyRef ko;have aO:Step y [] af gH {s₁ with toks:=tk} ao aK aC:=aO;obtain⟨l',t',M,cC,AK,ot,sy,dm,lx,kt⟩:=aF.tabIn<|gW ht;have cC:=hl▸cC;obtain rfl:=aE cC;have e:=eU.det (aO.bind i l _ (λh=>by cases h) hl hr) AK;cases e;refine g ?_;have an:atKey M k=none:=by cases kt.get ko with
   |no _ b=>exact b
   |yes _ _ a _ _=>rw[kn]at a;exact am a
  refine wpAny_setItem_heap (knd:=f9 prog w) (lG R) (bE.isKey ko eK) dm (λh' cQ pV=>?_) (by refine O bW.symm ?_;exact lx);rw[storedH_new an]at cQ;have kz:∀b o,aK b->aC.heap.get? b=some o->h'.get? b=some o:=λb o z e=>pV.extBut b o (λq=>by have:=aF.zo b z;rw[q,ot]at this;cases this) e;have T:TabAt h' aK t (X++[(k,d)]):=⟨_,sy,cQ,by refine O ZI ?_;rw[kt.len];exact ln,(kt.app ko eK<|aO.rep fW uF).mono kz λaa z=>z⟩
  have st:=m5 (sl:=.tab<|X++[(k,d)]) aF hl AK ot pV T.live ⟨t,rfl,ot,T⟩;exact⟨.next,ao,aK,rfl,st.1,aP<|(iT.trans<|(aP (tk:=tk) .refl).trans (aO.sub λaa h=>by cases h)).trans (st.2.sub λaa h=>by cases h),rfl⟩
open Classical in
theorem Dg{a:Str}{p dp:Pos}(R:Rn A c n)(ok:dA A V VN y c bv ah)(hx:V.isA x a i):
  mz A c y bv ah Z₀ s₀ (exec (.Assign [.Attribute (.Name x p) a p'] (.Dict [] [] dp) pos) VN) (.tab0 i):=by
 intro KK Z s Y LT h I S;obtain⟨hn,rfl⟩:=PI h;refine er (ok.en.ins hx.ne) λpp dx J=>?_;have hl:=(J.an a i hx.at').2;have nD:=w8 s.heap;have I1:Inv y KK Z (s.heap.push {cls:=.type "dict",data:=.dict #[]}) Y:=I.grow fun b o e=>pK _ b o e;have S1:Step y bv KK Z s KK Z {s with heap:=s.heap.push {cls:=.type "dict",data:=.dict #[]}}:=.grow (tk:=s.toks) fun b o e=>pK _ b o e;refine plainObj_wpAny_Assign_Attribute (wpAny_Dict_empty (iB (s:= {s with heap:=s.heap.push {cls:=.type "dict",data:=.dict #[]}}) J ok.en I1 hx.sn hx.db (m3 R.gd J hx hl I1 fun h' tk P=>?_))) rfl;have lv:∃o,(s.heap.push {cls:=.type "dict",data:=.dict #[]}).get? s.heap.objs.size=some o:=⟨_,Z1 _ rfl⟩
 refine⟨.next,_,Z,rfl,I1.setOwn hl P.keep P.rd P.oth P.ok P.ns P.si (I.fresh nD).1 (I.fresh nD).2.1 (I.fresh nD).2.2 lv ⟨_,rfl,rfl,[],oi<|R.big I,Heap.DictOfH.new _,Y7 _,trivial⟩,(S1.trans<|(P.step hl I1).sub λj hj=>?_).addO nD,rfl⟩;rw[Zr]at hj;subst hj;exact ok.bv _ (λq=>hn (by rw[contains_iff_mem.mpr q,Bool.or_true]))<|ok.en.hi _ _ hl
end
noncomputable def iN(dx L:Addr)(x:Str):List Loc:=tb.an.map (Loc.attr dx tb.an)++[.dict L x]
noncomputable def Lay.more(y:Lay)(i:Nat)(ls:List Loc)(p:Addr×Obj):Lay:= {y with loc:=λj=>if i<=j then ls[j-i]? else y.loc j,si:=i+tb.an.length,slf:=some p}
section
variable {A:Around}{c:Cfg}{n:Nat}{VN:Env}{V:Sc}{y:Lay}{i j k:Nat}{l:Loc}{ls:List Loc}{p:Addr×Obj}{dx L a:Addr}{x:Str}
 {bv bv':VS} {KK af ah ag ao jX:VP} {Z au Z₀ Z' aK gH:VQ} {s s₁ s₀ s' aC jp:Shared} {Y aj:Fm} {h:Heap}
theorem bj(h:(y.more i ls p).loc j=some l):(i<=j/\ls[j-i]?=some l)\/(j<i/\y.loc j=some l):=by
 have h:(if i<=j then ls[j-i]? else y.loc j)=some l:=h;by_cases q:i<=j
 .rw[YX q]at h;exact .inl ⟨q,h⟩
 .rw[YY q]at h;exact .inr ⟨Nat.not_le.mp q,h⟩
theorem dC(hi:∀j l,y.loc j=some l->j<i)(h:y.loc j=some l):(y.more i ls p).loc j=some l:=(YY<|Nat.not_le.mpr<|hi j l h).trans h
theorem iA(h:ls[k]?=some l):(y.more i ls p).loc (i+k)=some l:=by
 show(if i<=i+k then ls[i+k-i]? else _)=_
 refine O (YX<|Zl i k) ?_;rw[Zm];exact h
theorem bJ(h:(iN dx L x)[k]?=some l):(∃a,tb.an[k]?=some a/\l = .attr dx tb.an a)\/(k=tb.an.length/\l = .dict L x):=by
 unfold iN at h;rcases Nat.lt_or_ge k tb.an.length with q|q
 .rw[ZM (by rw[ZG];exact q),ZJ]at h;refine aB (Z9 h) λa Q=>?_;refine O Q.2.symm ?_;exact .inl ⟨a,Q.1,rfl⟩
 .rw[ZL (by rw[ZG];exact q),ZG]at h;cases e:k-tb.an.length with
  |zero=>rw[e]at h;refine O (aE h) ?_;exact .inr ⟨Zk (Nat.sub_eq_zero_iff_le.mp e) q,rfl⟩
  |succ m=>have h:=e▸h;exact am h
theorem iD(h:(iN dx L x)[k]?=some l):l.addr=dx\/l.addr=L:=by
 rcases bJ h with⟨a,_,rfl⟩|⟨_,rfl⟩
 .exact .inl rfl
 .exact .inr rfl
theorem DJ{v:Value}(r:eU h l v):∃o,h.get? l.addr=some o:=by cases l with
 |dict a x=>obtain⟨m,⟨o,_,_,e,_⟩,_⟩:=r;exact⟨o,e⟩
 |cell a=>refine aB r λo r=>?_;have e:=r.1;exact⟨o,e⟩
 |attr a ns x=>obtain⟨m,⟨⟨o,_,_,e,_⟩,_⟩,_⟩:=r;exact⟨o,e⟩
theorem Step.more(S:Step y bv ah Z₀ s₀ KK Z s)(hi:∀j l,y.loc j=some l->j<i)(hb:∀j∈bv,j∈bv')(hn:∀(k:Nat) l,ls[k]?=some l->s₀.heap.get? l.addr=none\/i+k∈bv'):Step (y.more i ls p) bv' ah Z₀ s₀ KK Z s where
 sh:=S.sh
 ext:=⟨λa o e w f=>S.ext.keep a o e (λq=>w (by
   rcases q with q|q|⟨j,k,hk,rfl⟩
   .exact .inl q
   .exact .inr (.inl q)
   .exact .inr (.inr ⟨j,k,dC hi hk,rfl⟩))) f,S.ext.live,S.ext.fram⟩
 zm:=S.zm
 zn:=S.zn
 on:=S.on
 bind:=λj l v nb hl r=>by
  rcases bj hl with⟨hj,q⟩|⟨hj,hl⟩
  .rcases hn _ l q with e|e
   .refine aB (DJ r) λo e'=>?_;rw[e]at e';exact am e'
   .rw[Zn hj]at e;exact absurd e nb
  .exact S.bind j l v (λq=>nb<|hb j q) hl r
theorem Step.thru(S:Step y bv KK Z s ao aK aC)(S2:Step (y.more i ls p) bv' ao aK aC jX gH jp)(hi:∀j l,y.loc j=some l->j<i)(hb:∀j∈bv',j∈bv\/i<=j)(hn:∀(k:Nat) l,ls[k]?=some l->l.addr=y.L\/s.heap.get? l.addr=none):Step y bv KK Z s jX gH jp where
 sh:=by refine er S.sh λh1 t1 e=>?_;refine er S2.sh λh2 t2 e'=>?_;subst e;exact⟨h2,t2,e'⟩
 ext:=⟨λa o e w f=>S2.ext.keep a o (S.ext.keep a o e w f) (λq=>by
   rcases q with q|q|⟨j,k,hk,rfl⟩
   .cases e2:ao a with
    |none=>exact q e2
    |some m=>
     rcases S.on a m e2 with e3|e3
     .exact w (.inl (by refine O e3 ?_;exact λn=>by cases n))
     .have e:=e3▸e;exact am e
   .exact w (.inr<|.inl q)
   .rcases bj hk with⟨_,hk⟩|⟨_,hk⟩
    .rcases hn _ k hk with q|q
     .exact w (.inr<|.inl q)
     .have e:=q▸e;exact am e
    .exact w (.inr<|.inr ⟨j,k,hk,rfl⟩)) f,λa o e=>let ⟨o',e'⟩:=S.ext.live a o e;S2.ext.live a o' e',λa o f e=>let ⟨sl,e'⟩:=S.ext.fram a o f e;let ⟨wg,KF⟩:=S2.ext.fram a _ f e';⟨wg,KF⟩⟩
 zm:=λa z=>S2.zm a<|S.zm a z
 zn:=λa z=>by
  rcases S2.zn a z with z|z|z
  .exact S.zn a z
  .cases e:ao a with
   |none=>exact absurd e z
   |some m=>exact(S.on a m e).elim (λq=>.inr<|.inl (by refine O q ?_;exact λn=>by cases n)) λq=>.inr<|.inr q
  .exact .inr (.inr<|S.old a z)
 on:=λa m e=>(S2.on a m e).elim (S.on a m) λq=>.inr<|S.old a q
 bind:=λj l v nb hl r=>S2.bind j l v (λq=>(hb j q).elim nb λq=>absurd (hi j l hl)<|Nat.not_lt.mpr q) (dC hi hl)<|S.bind j l v nb hl r
theorem Inv.unmore(I:Inv (y.more i ls p) KK Z h Y)(wf:y.Wf)(hi:∀j l,y.loc j=some l->j<i)(hs:y.slf=none)(hf:∀j,i<=j->j<i+ls.length-> ∀sl,Y[j]?=some sl->sl = .no):Inv y KK Z h Y where
 wf:=wf
 base:=I.base
 zb:=I.zb
 zo:=I.zo
 zl:=λj k hk=>I.zl j k<|dC hi hk
 ol:=λj k hk=>I.ol j k<|dC hi hk
 zL:=I.zL
 oL:=I.oL
 zF:=I.zF
 oF:=I.oF
 zlv:=I.zlv
 olv:=I.olv
 flv:=I.flv
 ok:=λj k hk=>I.ok j k<|dC hi hk
 nsL:=I.nsL
 sf:=λp e=>by have e:=hs▸e;exact am e
 at':=λj sl e n=>by
  obtain⟨k,v,hk,r1,r⟩:=I.at' j sl e n;rcases bj hk with⟨hj,q⟩|⟨hj,hk⟩
  .exact absurd (hf j hj (by refine O (Zn hj).symm ?_;exact Nat.add_lt_add_left (List.getElem?_eq_some_iff.mp q).1 i) sl e) n
  .exact⟨k,v,hk,r1,r⟩
theorem CU(wf:y.Wf)(hi:∀j l,y.loc j=some l->j<i)(hx:∀j,y.loc j≠some (.dict y.L x))(hd:∀j l,y.loc j=some l->l.addr≠dx)(hL:dx≠y.L)(hF:¬y.F dx)(nd:tb.an.Nodup):(y.more i (iN dx y.L x) p).Wf where
 apart:=λj j' k k' hk e6 de hq=>by
  rcases bj hk with⟨h1,e1⟩|⟨h1,e1⟩<;>rcases bj e6 with⟨h2,e2⟩|⟨h2,e2⟩
  .rcases bJ e1 with⟨a,ha,rfl⟩|⟨ha,rfl⟩<;>rcases bJ e2 with⟨b,hb,rfl⟩|⟨hb,rfl⟩
   .refine .attr dx tb.an a b rfl rfl λq=>de ?_;subst q;have:=(List.getElem_inj (h₀:=(List.getElem?_eq_some_iff.mp ha).1) (h₁:=(List.getElem?_eq_some_iff.mp hb).1) nd).mp<|(List.getElem?_eq_some_iff.mp ha).2.trans (List.getElem?_eq_some_iff.mp hb).2.symm;exact O (Za h1).symm<|O this<|O (Za h2) rfl
   .exact absurd hq hL
   .exact absurd hq.symm hL
   .exact absurd (O (Za h1).symm<|O ha<|O hb.symm<|O (Za h2) rfl) de
  .rcases bJ e1 with⟨a,ha,rfl⟩|⟨ha,rfl⟩
   .exact absurd hq.symm (hd _ _ e2)
   .cases k' with
    |dict b z=>cases hq;exact .dict _ x z rfl rfl λq=>hx j'<|q▸e2
    |cell b=>exact absurd hq.symm<|wf.cl _ _ e2
    |attr b ns z=>exact absurd hq.symm<|wf.al _ _ _ _ e2
  .rcases bJ e2 with⟨a,ha,rfl⟩|⟨ha,rfl⟩
   .exact absurd hq (hd _ _ e1)
   .cases k with
    |dict b z=>cases hq;exact .dict _ z x rfl rfl λq=>hx j<|q▸e1
    |cell b=>exact absurd hq<|wf.cl _ _ e1
    |attr b ns z=>exact absurd hq<|wf.al _ _ _ _ e1
  .exact wf.apart j j' k k' e1 e2 de hq
 nf:=λj k hk=>by
  refine ak λG1 g1=>?_;rcases bj hk with⟨_,e⟩|⟨_,e⟩
  .refine g1 ?_;rcases iD e with q|q<;>refine O q ?_
   .exact hF
   .exact wf.nL
  .refine g1 ?_;exact wf.nf j k e
 nL:=wf.nL
 cl:=λj a hk=>by
  refine ak λG g=>?_;rcases bj hk with⟨_,e⟩|⟨_,e⟩
  .refine g ?_;rcases bJ e with⟨_,_,q⟩|⟨_,q⟩<;>cases q
  .exact g (wf.cl j a e)
 al:=λj a ns z hk=>by
  rcases bj hk with⟨_,e⟩|⟨_,e⟩
  .rcases bJ e with⟨_,_,q⟩|⟨_,q⟩<;>cases q;exact hL
  .exact wf.al j a ns z e
theorem dS:(b6 V).length=tb.an.length:=by unfold b6;rw[ZG,ZE]
theorem j2{k j:Nat}(h:(b6 V)[k]?=some j):k<tb.an.length/\j=V.hi+k:=by unfold b6 at h;rw[ZJ]at h;refine aB (Z9 h) λm q=>?_;refine O q.2.symm ?_;obtain⟨h1,h2⟩:=List.getElem?_eq_some_iff.mp q.1;rw[ZE]at h1;rw[getElem_range]at h2;exact⟨h1,by exact O h2 rfl⟩
theorem nu{k:Nat}(h:k<tb.an.length):V.hi+k∈b6 V:=by unfold b6;exact mem_map.mpr ⟨k,mem_range.mpr h,rfl⟩
theorem hM:(gJ V x).as=b6 V:=by
 show(tb.an.zip<|b6 V).map (·.2)=b6 V
 exact List.map_snd_zip<|Zj dS
theorem lm:∀{as:VT}{is:VS}{a:Str}{j:Nat},(as.zip is).lookup a=some j-> ∃k:Nat,as[k]?=some a/\is[k]?=some j:=by intro as;induction as with
 |nil=>intro is a j h;exact am h
 |cons b as ih=>intro is a j h;cases is with
  |nil=>exact am h
  |cons m is=>rw[zip_cons_cons,ZC]at h;cases e:a==b with
   |true=>have h:=e▸h;refine O (aE h).symm ?_;exact⟨0,by refine O (beq_iff_eq.mp e) ?_;rfl,rfl⟩
   |false=>have h:=e▸h;exact aB (ih h) λk q=>(⟨k+1,q.1,q.2⟩)
theorem oW{a:Str}(h:tb.an[k]?=some a):(iN dx L x)[k]?=some (.attr dx tb.an a):=by unfold iN;refine O (ZM (by rw[ZG];exact(List.getElem?_eq_some_iff.mp h).1))<|O ZJ<|O h ?_;rfl
theorem j4:(iN dx L x)[tb.an.length]?=some (.dict L x):=by unfold iN;refine O (ZL (by rw[ZG];exact Zh _)) ?_;rw[ZG,Nat.sub_self];rfl
theorem qX:(iN dx L x).length=tb.an.length+1:=by unfold iN;rw[ZI,ZG];rfl
theorem Ay{bv₀:VS}(ok:dA A V VN y c bv ah)(hx:V.names.lookup x=some .local)(cls:∃c C,tb.cr=some c/\mg c.name=some (.ref C)/\p.2.cls = .ref C)(nc:∀c,p.2.data≠ .cls c)(dic:p.2.dict=some dx)(ne:dx≠p.1)(hd:∀j l,y.loc j=some l->l.addr≠dx)(hL:dx≠y.L):
  kJ (gJ V x) VN (y.more V.hi (iN dx y.L x) p) p dx where
 slf:=rfl
 cls:=cls
 nc:=nc
 dic:=dic
 ne:=ne
 lk:=(ok.kd x).trans hx
 ls:=by exact O ok.le<|iA j4
 an:=λa j h=>by obtain⟨k,Q⟩:=lm h;obtain⟨_,rfl⟩:=j2 Q.2;exact⟨Zs Q.1,iA<|oW Q.1⟩
 as:=λk j h=>by obtain⟨h1,rfl⟩:=j2<|hM▸h;exact⟨_,ZK h1,iA<|oW<|ZK h1⟩
 len:=by exact O hM dS
 full:=λj l h q=>by
  refine O hM ?_;rcases bj h with⟨hj,h⟩|⟨_,h⟩
  .rcases bJ h with⟨a,ha,_⟩|⟨_,rfl⟩
   .have:=nu (V:=V) (List.getElem?_eq_some_iff.mp ha).1
    rw[Zn hj]at this;exact this
   .exact absurd q.symm hL
  .exact absurd q (hd _ _ h)
 zd:=λj l h q=>by
  rcases bj h with⟨hj,h⟩|⟨_,h⟩
  .rcases bJ h with⟨a,_,rfl⟩|⟨_,rfl⟩
   .exact⟨a,rfl⟩
   .exact absurd q.symm hL
  .exact absurd q (hd _ _ h)
theorem E4(ok:dA A V VN y c bv ah)(hx:V.names.lookup x=some .local)(J:kJ (gJ V x) VN (y.more V.hi (iN dx y.L x) p) p dx)(de:tb.an≠ []):
  dA A (gJ V x) VN (y.more V.hi (iN dx y.L x) p) c (bv++List.map (V.hi + ·) (List.range<|tb.an.length+1)) ah where
 en:= {
  stk:=ok.en.stk
  hi:=λj l h=>by
   show j<V.hi+tb.an.length+1
   rcases bj h with⟨hj,h⟩|⟨hj,h⟩
   .have q:=(List.getElem?_eq_some_iff.mp h).1;rw[qX]at q;refine O (Zn hj).symm ?_;rw[Nat.add_assoc];exact Nat.add_lt_add_left q _
   .exact Zd hj (Zg (Zl _ _)<|Zl _ 1)
  kind:=ok.en.kind
  glob:=ok.en.glob
  blt:=ok.en.blt
  frame:=ok.en.frame
  top:=ok.en.top
  var:=λz j h=>(ok.en.var z j h).imp (λq=>⟨q.1,dC ok.en.hi q.2⟩) λ⟨q,c,q1,q2⟩=>⟨q,c,q1,dC ok.en.hi q2⟩
  gl:=ok.en.gl
  cf:=ok.en.cf
  ins:=λaa=>⟨p,dx,J⟩
  nsi:=λz j h p' aa q=>by
   refine aB (ok.loc h) λl hl=>?_
   have:=ok.en.hi j l hl;exact absurd this<|Nat.not_lt.mpr (by refine O (show V.hi+tb.an.length=j from q).symm ?_;exact Zl _ _)
  slo:=λp' aa=>⟨_,iA j4⟩}
 nf:=ok.nf
 bv:=λj hp h=>by
  by_cases q:V.hi<=j
  .refine Zw _ (mem_map.mpr ⟨j-V.hi,mem_range.mpr ?_,Zn q⟩);exact Nat.sub_lt_left_of_lt_add q (by rw[<- Nat.add_assoc];exact h)
  .exact Zx _ (ok.bv j hp<|Nat.not_le.mp q)
 ni:=ok.ni
 kd:=ok.kd
 le:=ok.le
 lv:=λaa ai br=>.inr λq=>by
  have:((gJ V x).as).length=0:=by show(List.map _ (gJ V x).ats).length=0;refine O q ?_;rfl
  rw[hM,dS]at this;exact de<|List.length_eq_zero_iff.mp this
 sl:=λq=>by
  have:((gJ V x).as).length=0:=by show(List.map _ (gJ V x).ats).length=0;refine O q ?_;rfl
  rw[hM,dS]at this;exact absurd (List.length_eq_zero_iff.mp this) de
structure Made(y:Lay)(Z:VQ)(s:Shared)(aM:List Slot)(xa:Addr)(ox:Obj)(dx:Addr)(ag:VP)(Z':VQ)(s':Shared):Prop where
 sh:∃h' tk,s'={s with heap:=h',toks:=tk}
 keep:∀a o,s.heap.get? a=some o-> ¬y.F a->a≠y.L->s'.heap.get? a=some o
 live:∀a o,s.heap.get? a=some o-> ∃o',s'.heap.get? a=some o'
 fram:∀a o,y.F a\/a=y.L->s.heap.get? a=some o-> ∃sl,s'.heap.get? a=some {o with slots:=sl}
 zm:∀a,Z a->Z' a
 zn:∀a,Z' a->Z a\/s.heap.get? a=none
 on:∀a k,ag a=some k->s.heap.get? a=none
 gh:Gh (λa=>y.F a\/a=y.L) ag Z' s'.heap
 ins:vX (λa=>y.F a\/a=y.L) ag Z' s'.heap xa ox dx
 ats:vY (some (xa,ox,dx)) ag Z' s'.heap aM
 len:tb.an.length<=aM.length
 fx:s.heap.get? xa=none
 fd:s.heap.get? dx=none
theorem zu{d:DefRec}{cr:ClsRec}{C:Addr}{X:VX}{vs:VU}{o:VW Rv}{aM:List Slot}{as:VS}{Q:Value→Shared→Prop}{E:Value→Shared→Prop}(R:Rn A c n)(en:aJ A V VN y)(fX:c.hd=false)(rg:tb.cr=some cr)(hC:mg cr.name=some (.ref C))(hd:tb.fn[tb.m0]?=some d)(Re:d.name = "__init__")(U5:as.length=tb.an.length)
  (I:Inv y KK Z s.heap Y) (RA:aq s.heap Z vs X) (hc:c.call false tb.m0 (fP as++X.map .fz)=some (o,aM)) (hn:Ny o=true) (K:∀xa ox dx ag Z' s',Made y Z s aM xa ox dx ag Z' s'->Q (.ref xa) s'):wpAny (model prog w) A (call (.ref C) vs) Q E s:=by
 refine ak λG1 g1=>?_;refine kF (R.gd.pl cr rg) λC' N mN j=>?_;have tT:=j.1;have P:=j.2.1;have jR:=j.2.2.1;have PL:=j.2.2.2;have tT:=hC▸tT;cases tT;refine ak λG2 g2=>?_;obtain⟨JV,Tp,z,hz⟩:=PL tb.m0 d (Zh _) hd;refine ak λG3 g3=>?_;obtain⟨fa,fo,pm,cd,gS,h1,h2,h3,h4,h5⟩:=P.meths _ JV;refine ak λG5 g5=>?_;obtain⟨hh,g,Vo,t,os⟩:=s;refine g5 ?_;refine ak λG4 g4=>?_;obtain⟨nm,q,bs,sn,sub,col,Vn,k0,k1,k2,k3,k5,G9⟩:=(P.cls.keeps I.base).obj;refine g4 ?_;refine g3 ?_;refine g2 ?_;refine g1 ?_;refine wpAny_call_obj_init PySem.F.objNew G9 (P.cls.keeps I.base).ns (by refine O Re.symm ?_;exact h1) (I.base _ _ h2) h3 λh' x dx Mk=>?_;refine aB Mk.inst λox U=>?_;have EO:=Mk.dict ox U.1;obtain⟨de,Q4⟩:dx≠x/\h'.Ns1 dx λaa=>none:=by
  rcases U.2.2.2 with⟨UM,_⟩|⟨d',cQ,Q6,Q5⟩
  .have EO:=UM▸EO;exact am EO
  .have EO:=cQ▸EO;refine O (aE EO).symm ?_;exact⟨Q6,Q5⟩
 have gh:Gh (λa=>y.F a\/a=y.L) (λaa=>none) (λa=>Z a\/a=x) h':=⟨λa o e=>Mk.keeps a o<|I.base a o e,λa o e=>.inl<|I.zb a o e,λaa ai=>rfl,λa z f=>by
   rcases z with z|rfl
   .exact f.elim (I.zF a z) λe=>I.zL<|e▸z
   .exact f.elim (I.fresh Mk.newX).2.1 λe=>(I.fresh Mk.newX).1<|.inr<|.inl e,λa n=>absurd rfl n,λa z=>by
   rcases z with z|rfl
   .exact aB (I.zlv a z) λo e=>(⟨o,Mk.keeps a o e⟩)
   .exact⟨_,U.1⟩,λa n=>absurd rfl n,λa f=>by
   rcases f with f|rfl
   .exact aB (I.flv a f) λo J=>(⟨o,Mk.keeps a o J.1,J.2⟩)
   .refine pc I.nsL λm o aa ai u=>?_;have e:=u.1;have cQ:=u.2.1;exact⟨o,Mk.keeps _ o e,λvs q=>by have q:=cQ▸q;exact nomatch q⟩⟩
 have ins:uG (λa=>y.F a\/a=y.L) (λaa=>none) (λa=>Z a\/a=x) h' (some (x,ox,dx)):=λx' o' PR e=>by cases e;exact⟨.inr rfl,U.1,⟨cr,C,rg,hC,U.2.1⟩,U.2.2.1,EO,de,λz=>z.elim (I.fresh Mk.newD).2.2 de,rfl,λf=>f.elim (I.fresh Mk.newD).2.1 λe=>(I.fresh Mk.newD).1<|.inr<|.inl e,_,Q4,λz n=>absurd rfl n⟩
 have PM:(fP as).length=tb.an.length:=by unfold fP;rw[ZG];exact U5
 have sl:iJ (some (x,ox,dx)) (λaa=>none) (λa=>Z a\/a=x) h' (fP as++X.map .fz) vs:=by
  refine⟨by refine O ZI ?_;rw[PM,ZG];refine O RA.length.symm ?_;rfl,λk sl l e hl n=>?_,λk sl v e e'=>?_⟩
  .have hk:k<tb.an.length:=(eO hl).1;rw[ZM (by refine O PM ?_;exact hk)]at e;unfold fP at e;rw[ZJ]at e;obtain⟨_,q0⟩:=Z9 e;exact absurd q0.2.symm n
  .have e:(fP as++X.map .fz)[tb.an.length+k]?=some sl:=e;rw[ZL (by refine O PM ?_;exact Zl _ _),PM,Zm,ZJ]at e;refine ak λG7 g7=>?_;obtain⟨d',cQ,rfl⟩:=Z9 e;refine g7 ?_;refine ak λG6 g6=>?_;obtain⟨v',wX,r⟩:=RA.get cQ;have e':=wX▸e';obtain rfl:=aE e';exact g6<|⟨(λq=>by cases q),r.mono (λa o aa e=>Mk.keeps a o e) λaa z=>.inl z⟩
 have key:=R.cs false tb.m0 _ o aM hc d hd (some (x,ox,dx)) fa (⟨⟨fun q=>am q.symm,fun q=>absurd q (Zf _)⟩,fo,_,pm,cd,gS,h2,h4,h5⟩) (A.under (.builtin "type.__call__" ⟨.ref C :: vs,[]⟩)) _ _ _ ⟨h',g,Vo,t,os⟩ vs (by show A.depth+1+2 * n≤999; have:=R.dep; exact (L1 [A.2,n] (.a (.p 1 .x) (.m 2 .y)) (.c 999) (.p 1 (.a .x (.m 2 .y))) (.c 999) rfl this)) (by show A.units+1+8 * n≤4000; have:=R.un; exact (L1 [A.5,n] (.a (.p 1 .x) (.m 8 .y)) (.c 4000) (.p 4 (.a .x (.m 8 .y))) (.c 4000) rfl this)) (fun aa=>R.hh fX) en.stk gh ins sl;refine wpAny_call (codeAny_mono key fun r s' P=>?_);obtain ⟨ag,Z',G,J',T,at',ln,_,⟨rv,v,q,rfl,R'⟩ | ⟨CA,ea,q,_⟩⟩:=P
 .subst q;have hv:v = .none:=by cases rv with
   |fz d=>refine ak λG8 g8=>?_;cases d with
    |none=>refine g8 ?_;exact(bE.dat R').none
    |_=>refine g8 ?_;exact nomatch hn
   |_=>exact nomatch hn
  refine⟨hv,K x ox dx ag Z' s' ⟨T.sh,λa o e f l=>T.ext.keep a o (Mk.keeps a o e) (λq=>q.elim (λq=>q rfl) λ⟨_,_,q⟩=>by cases q;have e:=Mk.newD▸e;exact am e) λq=>q.elim f l,λa o e=>T.ext.live a o<|Mk.keeps a o e,λa o f e=>T.ext.fram a o f<|Mk.keeps a o e,λa z=>T.zm a<|.inl z,λa z=>?_,λa k e=>?_,G,J' _ _ _ rfl,at',ln,Mk.newX,Mk.newD⟩⟩
  .have nn:h'.get? a=none->hh.get? a=none:=λq=>by
    cases e:hh.get? a with
    |none=>rfl
    |some o=>have q:=(Mk.keeps a o e)▸q;cases q
   rcases T.zn a z with(z|rfl)|z|z
   .exact .inl z
   .exact .inr Mk.newX
   .exact absurd rfl z
   .exact .inr (nn z)
  .rcases T.on a k e with q|q
   .exact am q
   .cases e':hh.get? a with
    |none=>rfl
    |some o=>have q:=(Mk.keeps a o e')▸q;exact nomatch q
 .subst q;exact nomatch hn
theorem Made.back{xa:Addr}(I:Inv y KK Z s.heap Y)(IO:Made y Z s aM xa ox dx ag Z' s'):Inv y KK Z' s'.heap Y/\Step y bv KK Z s KK Z' s':=by
 have kz:∀a o,Z a->s.heap.get? a=some o->s'.heap.get? a=some o:=λa o z e=>IO.keep a o e (I.zF a z) λq=>I.zL<|q▸z;have ko:∀a o,KK a≠none->s.heap.get? a=some o->s'.heap.get? a=some o:=λa o z e=>IO.keep a o e (I.oF a z) λq=>z<|q▸I.oL;have Iu:∀o,s.heap.get? y.L=some o-> ∃sl,s'.heap.get? y.L=some {o with slots:=sl}:=λo e=>IO.fram y.L o (.inr rfl) e;have GG:∀i l v,y.loc i=some l->eU s.heap l v->eU s'.heap l v:=λi l v hl hv=>by
  by_cases e:l.addr=y.L
  .cases l with
   |dict a x=>obtain⟨m,hv⟩:=hv;subst e;exact⟨m,dI hv.1 Iu,hv.2⟩
   |cell a=>exact absurd e<|I.wf.cl i a hl
   |attr a ns x=>exact absurd e<|I.wf.al i a ns x hl
  .exact hv.keeps λo e'=>IO.keep _ o e' (I.wf.nf i l hl) e
 have Qr:∀i l,y.loc i=some l->qD s'.heap l:=λi l hl=>by
  have hv:=I.ok i l hl;by_cases e:l.addr=y.L
  .cases l with
   |dict a x=>obtain⟨m,hn⟩:=hv;subst e;exact⟨m,dI hn Iu⟩
   |cell a=>exact absurd e<|I.wf.cl i a hl
   |attr a ns x=>exact absurd e<|I.wf.al i a ns x hl
  .exact hv.keeps λo e'=>IO.keep _ o e' (I.wf.nf i l hl) e
 have P4:∀i l,y.loc i=some l-> ¬Z' l.addr:=λi l hl z=>by
  obtain⟨o,e⟩:=(I.ok i l hl).live;rcases IO.zn _ z with z|z
  .exact I.zl i l hl z
  .rw[z]at e;exact am e
 refine⟨⟨I.wf,IO.gh.base,IO.gh.zb,λa z=>?_,P4,I.ol,λz=>IO.gh.zF _ z<|.inr rfl,I.oL,λa z f=>IO.gh.zF a z<|.inl f,I.oF,IO.gh.zlv,λa q=>?_,λa f=>IO.gh.flv a<|.inl f,Qr,?_,λp e=>(I.sf p e).mono kz IO.zm λl v hl r=>GG _ l v hl r,λi s0 e n=>?_⟩,⟨IO.sh,⟨λa o e w f=>IO.keep a o e f λq=>w<|.inr<|.inl q,IO.live,λa o f e=>IO.fram a o (.inl f) e⟩,IO.zm,λa z=>(IO.zn a z).imp id .inr,λa i e=>.inl e,λi l v aa hl hv=>GG i l v hl hv⟩⟩
 .rcases IO.zn a z with z|z
  .exact I.zo a z
  .cases q:KK a with
   |none=>rfl
   |some i=>obtain⟨o,e⟩:=I.olv a (by refine O q ?_;exact λn=>by cases n);rw[z]at e;exact am e
 .obtain⟨o,e⟩:=I.olv a q;exact IO.live a o e
 .obtain⟨m,hn⟩:=I.nsL;exact⟨m,dI hn Iu⟩
 .obtain⟨l,v,hl,hv,sv⟩:=I.at' i s0 e n;exact⟨l,v,hl,GG i l v hl hv,sv.mono kz IO.zm (λaa q=>q) λa o q=>ko a o (by refine O q ?_;exact λn=>by cases n)⟩
noncomputable def cK(i:Nat)(KK ag:VP):VP:=λa=>match KK a with
 |some j=>some j
 |none=>match ag a with
  |some k=>if k<tb.an.length then some (i+k) else none
  |none=>none
theorem wx{m:Nat}(h:cK i KK ag a=some m):KK a=some m\/ ∃k,ag a=some k/\k<tb.an.length/\m=i+k:=by unfold cK at h;cases e:KK a with
 |some j=>rw[e]at h;exact .inl h
 |none=>rw[e]at h;cases e':ag a with
  |none=>rw[e']at h;exact am h
  |some k=>
   rw[e']at h;have h:(if k<tb.an.length then some (i+k) else none)=some m:=h;by_cases q:k<tb.an.length
   .rw[YX q]at h;refine O (aE h).symm ?_;exact .inr ⟨k,rfl,q,rfl⟩
   .rw[YY q]at h;exact am h
theorem y3{m:Nat}(h:KK a=some m):cK i KK ag a=some m:=by unfold cK;rw[h]
theorem y4(h:KK a=none)(h':ag a=some k)(hk:k<tb.an.length):cK i KK ag a=some (i+k):=by unfold cK;exact O h<|O h'<|YX hk
theorem zv:(b6 V).Nodup:=by unfold b6;exact Pairwise.map _ (λa b h q=>h<|Nat.add_left_cancel q) List.nodup_range
theorem Made.inv{xa:Addr}{h2:Heap}(hi:∀j l,y.loc j=some l->j<V.hi)(hx:∀j,y.loc j≠some (.dict y.L x))(nd:tb.an.Nodup)(I:Inv y KK Z s.heap Y)(IO:Made y Z s aM xa ox dx ag Z' s')(hm:s'.heap.Ns y.L m)(jC:h2.Ns y.L λz=>if z=x then some (.ref xa) else m z)(hs:Heap.SameBut y.L s'.heap h2):
  Inv (y.more V.hi (iN dx y.L x) (xa,ox)) (cK V.hi KK ag) Z' h2 (eB Y (b6 V) aM):=by
 have I':=(IO.back (bv:=[]) I).1;have fd:=I.fresh IO.fd;have kp:∀b o,b≠y.L->s'.heap.get? b=some o->h2.get? b=some o:=λb o n e=>hs.extBut b o n e;have dL:dx≠y.L:=λq=>fd.1<|.inr<|.inl q;have od:KK dx=none:=by cases q:KK dx with
  |none=>rfl
  |some k=>exact absurd (.inl (by refine O q ?_;exact λn=>by exact nomatch n)) fd.1
 have zL:∀a,Z' a->a≠y.L:=λa z q=>I'.zL<|q▸z;have nN:∀a,KK a=none->ag a=none->cK V.hi KK ag a=none:=λa e e'=>by unfold cK;exact O e<|O e' rfl
 have Un:∀a k,ag a=some k->KK a=none:=λa k e=>by cases q:KK a with
  |none=>rfl
  |some j=>obtain⟨o,e'⟩:=I.olv a (by refine O q ?_;exact λn=>by exact nomatch n);have e':=(IO.on a k e)▸e';exact am e'
 have oL:ag y.L=none:=by cases q:ag y.L with
  |none=>rfl
  |some k=>exact absurd (.inr rfl)<|IO.gh.oF y.L (by refine O q ?_;exact λn=>by exact nomatch n)
 have ne:∀a,cK V.hi KK ag a≠none->KK a≠none\/ag a≠none:=λa h=>by
  by_cases e:KK a=none
  .exact .inr λe'=>h<|nN a e e'
  .exact .inl e
 have lo:∀j l,y.loc j=some l->ag l.addr=none:=λj l hl=>by cases q:ag l.addr with
  |none=>rfl
  |some k=>obtain⟨o,e⟩:=(I.ok j l hl).live;have e:=(IO.on _ k q)▸e;exact am e
 have nL:∀a,cK V.hi KK ag a≠none->a≠y.L:=λa h q=>(ne a h).elim (λh=>h<|q▸I'.oL) λh=>h<|q▸oL;refine⟨CU I.wf hi hx (λj l hl q=>fd.1<|.inr<|.inr ⟨j,l,hl,q⟩) dL fd.2.1 nd,λa o e=>kp a o (zL a<|I'.zb a o e)<|I'.base a o e,I'.zb,λa z=>nN a (I'.zo a z)<|IO.gh.zo a z,λj l hl=>?_,λj l hl=>?_,I'.zL,nN _ I'.oL oL,I'.zF,λa h=>(ne a h).elim (I'.oF a) λh f=>IO.gh.oF a h<|.inl f,λa z=>?_,λa h=>?_,λa f=>?_,λj l hl=>?_,⟨_,jC⟩,λp e=>?_,λj sl e n=>?_⟩
 .rcases bj hl with⟨_,hl⟩|⟨_,hl⟩
  .rcases iD hl with q|q<;>refine O q ?_
   .exact IO.ins.zd
   .exact I'.zL
  .exact I'.zl j l hl
 .rcases bj hl with⟨_,hl⟩|⟨_,hl⟩
  .rcases iD hl with q|q<;>refine O q ?_
   .exact nN _ od IO.ins.od
   .exact nN _ I'.oL oL
  .exact nN _ (I'.ol j l hl) (lo j l hl)
 .obtain⟨o,e⟩:=I'.zlv a z;exact⟨o,kp a o (zL a z) e⟩
 .obtain⟨o,e⟩:=(ne a h).elim (I'.olv a)<|IO.gh.olv a;exact⟨o,kp a o (nL a h) e⟩
 .obtain⟨o,Q⟩:=I'.flv a f;exact⟨o,kp a o (λq=>I.wf.nL<|q▸f) Q.1,Q.2⟩
 .rcases bj hl with⟨_,hl⟩|⟨_,hl⟩
  .rcases bJ hl with⟨a,_,rfl⟩|⟨_,rfl⟩
   .exact qD.keeps (l:=.attr dx tb.an a) (λo e=>kp _ o dL e) IO.ins.ok
   .exact⟨_,jC⟩
  .by_cases q:l.addr=y.L
   .cases l with
    |dict a z=>subst q;exact⟨_,jC⟩
    |cell a=>exact absurd q<|I.wf.cl _ _ hl
    |attr a ns z=>exact absurd q<|I.wf.al _ _ _ _ hl
   .exact(I'.ok j l hl).keeps λo e=>kp _ o q e
 .refine O (aE e).symm ?_;exact⟨IO.ins.zx,kp _ _ (zL _ IO.ins.zx) IO.ins.ob,_,iA j4,_,jC,YX rfl⟩
 .have kz:∀a o,Z' a->s'.heap.get? a=some o->h2.get? a=some o:=λa o z e=>kp a o (zL a z) e;rcases lD zv (by refine O dS ?_;exact IO.len) e with⟨k,hk,ho⟩|⟨_,e⟩
  .obtain⟨h1,rfl⟩:=j2 hk;obtain⟨v,r,sv⟩:=IO.ats k sl (.attr dx tb.an tb.an[k]) ho (by show(tb.an[k]?).map _=_;refine O (ZK h1) ?_;rfl) n;exact⟨_,v,iA<|oW<|ZK h1,r.keeps λo e=>kp _ o dL e,sv.mono kz (λaa z=>z) (λa q=>y4 (Un a k q) q h1) λa o q e=>kp a o (λq'=>by have q:=q'▸q;have q:=oL▸q;exact am q) e⟩
  .obtain⟨l,v,hl,r,sv⟩:=I'.at' j sl e n;refine⟨l,v,dC hi hl,?_,sv.mono kz (λaa z=>z) (λa q=>y3 q) λa o q e=>kp a o (λq'=>by rw[q']at q;have q:=I'.oL▸q;exact am q) e⟩;by_cases q:l.addr=y.L
   .cases l with
    |dict a z=>
     subst q;refine aB r λm2 r=>?_;have h3:=r.1;have h4:=r.2;have em:m2 z=m z:=by refine kF h3 λo es ep h3=>?_;have g1:=h3.1;have g2:=h3.2.1;have g3:=h3.2.2.2;refine ak λG g=>?_;obtain⟨o',Kq,Ks,L5,EY,_,Rt⟩:=hm;have L5:=g1▸L5;obtain rfl:=aE L5;have EY:=g2▸EY;injection EY with EY;subst EY;refine g ?_;rw[<- g3,Rt]
     exact⟨_,jC,by show(if z=x then some (.ref xa) else m z)=some v;refine O (YY (show ¬z=x from λq=>hx j<|q▸hl))<|O em.symm ?_;exact h4⟩
    |cell a=>exact absurd q<|I.wf.cl _ _ hl
    |attr a ns z=>exact absurd q<|I.wf.al _ _ _ _ hl
   .exact r.keeps λo e=>kp _ o q e
theorem Made.step{xa:Addr}{h2:Heap}(hx:∀j,y.loc j≠some (.dict y.L x))(I:Inv y KK Z s.heap Y)(IO:Made y Z s aM xa ox dx ag Z' s')(hm:s'.heap.Ns y.L m)(jC:h2.Ns y.L λz=>if z=x then some (.ref xa) else m z)(hs:Heap.SameBut y.L s'.heap h2):
  Step y bv KK Z s (cK i KK ag) Z' {s' with heap:=h2,toks:=tk} where
 sh:=by refine er IO.sh λh1 t1 e=>?_;subst e;exact⟨_,_,rfl⟩
 ext:=⟨λa o e w f=>hs.extBut a o (λq=>w<|.inr<|.inl q)<|IO.keep a o e f λq=>w<|.inr<|.inl q,λa o e=>by
   obtain⟨o',e'⟩:=IO.live a o e;by_cases q:a=y.L
   .exact kF jC λo2 aa ai jC=>(⟨o2,q▸jC.1⟩)
   .exact⟨o',hs.extBut a o' q e'⟩,λa o f e=>let ⟨sl,e'⟩:=IO.fram a o (.inl f) e;⟨sl,hs.extBut a _ (λq=>I.wf.nL<|q▸f) e'⟩⟩
 zm:=IO.zm
 zn:=λa z=>(IO.zn a z).imp id .inr
 on:=λa k e=>(wx e).imp id λ⟨k',h,_⟩=>IO.on a k' h
 bind:=λj l v aa hl r=>by
  have r:=(IO.back (bv:=[]) I).2.bind j l v (λq=>by cases q) hl r;by_cases q:l.addr=y.L
  .cases l with
   |dict a z=>
    cases q;obtain⟨m2,r⟩:=r;have h3:=r.1;have h4:=r.2;have em:m2 z=m z:=by refine ak λG g=>?_;refine kF h3 λo es ep h3=>?_;have g1:=h3.1;have g2:=h3.2.1;have g3:=h3.2.2.2;obtain⟨o',Kq,Ks,L5,EY,_,Rt⟩:=hm;rw[g1]at L5;obtain rfl:=aE L5;have EY:=g2▸EY;cases EY;refine g ?_;rw[<- g3,Rt]
    exact⟨_,jC,by show(if z=x then some (.ref xa) else m z)=some v;refine O (YY (show ¬z=x from λq=>hx j<|q▸hl))<|O em.symm ?_;exact h4⟩
   |cell a=>exact absurd q<|I.wf.cl _ _ hl
   |attr a ns z=>exact absurd q<|I.wf.al _ _ _ _ hl
  .exact r.keeps λo e=>hs.extBut _ o q e
theorem uJ(hi:∀j l,y.loc j=some l->j<i)(h:y.wr KK a):(y.more i ls p).wr KK a:=by
 rcases h with h|h|⟨j,k,hk,rfl⟩
 .exact .inl h
 .exact .inr (.inl h)
 .exact .inr (.inr ⟨j,k,dC hi hk,rfl⟩)
theorem wj{r:Rv}{v:Value}(hi:∀j l,y.loc j=some l->j<i)(hv:∃d,c5 r=some d)(R:eD (y.more i ls p) KK Z h₀ h r v):eD y KK Z h₀ h r v:=by cases r with
 |fz d=>exact R
 |KK d=>obtain⟨a,R⟩:=R;exact⟨a,R.1,R.2.1,λq=>R.2.2.1<|uJ hi q,R.2.2.2⟩
 |pl p=>obtain⟨d,hv⟩:=hv;exact am hv
theorem MH{j:Nat}(h:V.hi<=j)(h':j<V.hi+(tb.an.length+1))(de:tb.an≠ []):j∈nx (b6 V):=by
 rcases Nat.lt_or_ge j (V.hi+tb.an.length) with q|q
 .refine Zu _ ?_;have:=nu (V:=V) (k:=j-V.hi)<|Nat.sub_lt_left_of_lt_add h q;rw[Zn h]at this;exact this
 .have e:j=V.hi+tb.an.length:=Zk (Nat.le_of_lt_succ h') q;have hl:(b6 V).getLast? = some (V.hi+(tb.an.length-1)):=by refine O (List.getLast?_eq_getElem?)<|O dS ?_;unfold b6;refine O ZJ<|O (List.getElem?_range<|Nat.sub_lt (length_pos_iff.mpr de) Nat.one_pos) ?_;rfl
  unfold nx;refine O hl<|O e ?_;show V.hi+tb.an.length∈(V.hi+(tb.an.length-1)+1)::b6 V
  rw[Nat.add_assoc];exact O (Za<|length_pos_iff.mpr de) Zt
theorem Ii{cr:ClsRec}{p np gT pos:Pos}{args:VV}{M:List Ex}{rest:List Stmt}{body:List St}(R:Rn A c n)(ok:dA A V VN y c bv ah)(rg:tb.cr=some cr)(hg:V.isG cr.name)(hx:V.ats=[]∧V.names.lookup x=some .local∧V.vars.lookup x=none∧(x == ("__debug__" :Str))=false)(OG:pU V args M)(de:args≠ []∧(∃d,tb.fn[tb.m0]?=some d∧d.name = "__init__"))
  (Hb:∀y' bv',dA A (gJ V x) VN y' c bv' ah->SS A c y' bv' ah Z₀ s₀ (execs rest VN) body):
  SS A c y bv ah Z₀ s₀ (execs (.Assign [.Name x p] (.Call (.Name cr.name np) args [] gT) pos::rest) VN) [.new tb.m0 (b6 V) M body]:=by
 intro KK Z s Y LT h I S;have h:sB c (.new tb.m0 (b6 V) M body) Y=some LT:=by
  rw[j8]at h;rcases aN h with⟨e,f,hm,rfl⟩|⟨k,f,hm,h⟩
  .exact hm
  .cases k with
   |next=>have h:=aE h;exact O h.symm hm
   |ret r=>have h:=aE h;exact O h.symm hm
 rw[Fd]at h;cases fX:c.hd with
 |true=>rw[fX]at h;exact am h
 |false=>
 rw[fX,YY Z7]at h;refine ak λG g=>?_;obtain⟨de,d,de⟩:=de;have hd:=de.1;have Re:=de.2;refine kF (R.gd.pl cr rg) λC N mN Q=>?_;have hC:=Q.1;have P:=Q.2.1;have jR:=Q.2.2.1;have PL:=Q.2.2.2;have F:=(bc R V _ OG VN y ok.en).imp λaa ai h=>(⟨h.1,h.2.1⟩:CE V _ _/\SE A c y _ _)
 have Tf:∀j,y.loc j≠some (.dict y.L x):=λj q=>(ok.lv j x q).elim (λn=>n hx.2.2.1) λn=>n hx.1;have N3:tb.an≠ []:=λq=>nomatch q;refine g ?_;refine wpAny_execs_cons<|wpAny_Assign_Name (Call_Name rfl<|eP R.gd ok.en I hg hC ?_) rfl;cases args with
 |nil=>exact absurd rfl de
 |cons e es=>
 refine ak λG2 g2=>?_;cases M with
 |nil=>refine g2 ?_;exact F.elim
 |cons z zs=>
 refine g2 ?_;refine callWith_cls P.cls ?_ (F.1.1.star VN es) (by have q:=qo (pos:=gT) F.2.2;rw[<- List.not_any_eq_all_not]at q;exact Z6 _▸q);refine YS (km h .refl (λaa h=>h) (λo e=>qv F KK Z s Y o e I) λrs aj af au s₁ vs bp h ax aW S' Rs=>?_) (λaa ai q=>q) λaa ai p=>p.strong ok.en (gf V _ OG) .refl;refine⟨ax.base,?_⟩;have aW:Step y bv KK Z s af au s₁:=(aW.strong ok.en<|gf V _ OG).sub λaa h=>by exact nomatch h
 cases jf:eC rs with
 |none=>have h:=jf▸h;exact am h
 |some X=>
 have h:=jf▸h;dsimp only at h;cases hc:c.call false tb.m0 (fP (b6 V)++X.map .fz) with
 |none=>rw[hc]at h;exact am h
 |some o=>
 have h:=hc▸h;dsimp only at h;cases hn:Ny o.1 with
 |false=>rw[hn]at h;exact am h
 |true=>
 rw[hn]at h;have h:=(YX rfl)▸h;refine zu R ok.en fX rg hC hd Re dS ax (Rs.repAll jf) hc hn λxa ox dx ag Z' s' IO=>?_;obtain⟨m,hm⟩:=(IO.back (bv:=bv) ax).1.nsL;refine wpAny_storeName_local ((ok.kd x).trans hx.2.1) (by refine O ok.le ?_;exact hm) (λh' yc hs=>?_) (by refine O ok.en.kind ?_;rfl);rw[ok.le]at yc hs;have fd:=ax.fresh IO.fd;have dL:dx≠y.L:=λq=>fd.1<|.inr<|.inl q;have aO:∀tk,Step y bv KK Z s (cK V.hi af ag) Z' {s' with heap:=h',toks:=tk}:=λtk=>aW.trans<|IO.step Tf ax hm yc hs;cases hb:dD c body (eB aj (b6 V) o.2) with
 |none=>have h:=hb▸h;exact am h
 |some ob=>
 rw[hb]at h;refine O (aE (show some (ob.1,clr ob.2<|nx<|b6 V)=some LT from h)).symm ?_;have bk:∀{o3:VP}{Z3:VQ}{s3:Shared}{tk:Nat},Inv (y.more V.hi (iN dx y.L x) (xa,ox)) o3 Z3 s3.heap ob.2->Step (y.more V.hi (iN dx y.L x) (xa,ox)) (bv++List.map (V.hi + ·) (List.range<|tb.an.length+1)) (cK V.hi af ag) Z' {s' with heap:=h',toks:=tk} o3 Z3 s3->Inv y o3 Z3 s3.heap (clr ob.2<|nx<|b6 V)/\Step y bv KK Z s o3 Z3 s3:=fun {o3 Z3 s3 tk} I3 S3=>by refine⟨(I3.clr _).unmore I.wf ok.en.hi (ok.sl hx.1) λj h1 h2=>pF<|.inr<|MH h1 (by rw[qX]at h2;exact h2) N3,(aO tk).thru S3 ok.en.hi (λj hj=>(mem_append.mp hj).imp id λhj=>?_) λk l hl=>(iD hl).symm.imp id λq=>by refine O q ?_;exact(aW.old dx IO.fd)⟩;refine aB (mem_map.mp hj) λm u=>?_;obtain rfl:=u.2;exact Zl _ _
 refine YS (Hb _ _ (E4 ok hx.2.1 (Ay (p:=(xa,ox)) (bv₀:=bv) ok hx.2.1 IO.ins.cls IO.ins.nc IO.ins.dic IO.ins.ne (λj l hl q=>fd.1<|.inr<|.inr ⟨j,l,hl,q⟩) dL) N3) _ _ _ _ _ hb (IO.inv (V:=V) ok.en.hi Tf (by decide) ax hm yc hs)<|(S.trans<|aO _).more ok.en.hi (λaa h=>Zx _ h) λk l hl=>?_) (λf jp P=>?_) λe jp P=>?_
 .rcases bJ hl with⟨a,_,rfl⟩|⟨rfl,rfl⟩
  .exact .inl (S.old dx<|aW.old dx IO.fd)
  .exact .inr (Zw _<|mem_map.mpr ⟨_,mem_range.mpr<|lt_succ_self _,rfl⟩)
 .refine ak λG1 g1=>?_;obtain⟨k,o3,Z3,q,I3,S3,fl⟩:=P;have U:=bk I3 S3;refine g1 ?_;refine⟨k,o3,Z3,q,U.1,U.2,?_⟩;cases k with
  |next=>exact fl
  |ret r=>exact aB fl λv fl=>(⟨v,fl.1,wj ok.en.hi fl.2.2 fl.2.1,fl.2.2⟩)
 .obtain⟨CA,ea,o3,Z3,q,rfl,I3,S3,Id⟩:=P;obtain⟨I4,S4⟩:=bk I3 S3;exact⟨CA,ea,o3,Z3,q,rfl,I4,S4,Id.mono λb aa ai h=>⟨(aO 0).old b h.1,λq=>h.2.1<|uJ ok.en.hi q,h.2.2⟩⟩
end
theorem Lo{m':Str->Option Value}(x:h.Ns a m)(z:h.Ns a m')(k:Str):m k=m' k:=by refine ak λG g=>?_;refine kF x λo es ep x=>?_;have ho:=x.1;have hd:=x.2.1;have hk:=x.2.2.1;have hf:=x.2.2.2;obtain⟨o',Kq,Ks,lc,cQ,e6,J0⟩:=z;rw[ho]at lc;obtain rfl:=aE lc;have cQ:=hd▸cQ;cases cQ;refine g ?_;rw[<- hf,J0]
section
variable {A:Around}{c:Cfg}{n:Nat}{VN:Env}{V:Sc}{y:Lay}
 {bv bv':VS} {KK af ah ag:VP} {Z au Z₀ Z':VQ} {s s₁ s₀ s':Shared} {Y aj:Fm}
theorem yC{k MY:Str}{np gT:Pos}(R:Rn A c n)(ok:dA A V VN y c bv ah)(hg:V.isG k)(hk:k∈tb.cl):
  mz A c y bv ah Z₀ s₀ (exec (.Raise (some<|.Call (.Name k np) [.Constant (.str MY) kk ap] [] gT) none pos) VN) (.raise k):=by
 intro KK Z s Y LT h I S;rw[xp]at h;cases fX:c.hd with
 |true=>rw[fX]at h;exact am h
 |false=>
 rw[fX,YY Z7]at h;refine O (aE h).symm ?_;refine ak λG g1=>?_;obtain⟨C,Bb,newId,hY,bm,Fr,FB⟩:=R.gd.cl k hk;obtain⟨tl,N,nm,q,bs,hdct,sn,sub,ab,col,dd,k0,k1,k2,k3,k5,mN,hC,hN,hq,T⟩:=Fr.obj;refine g1 ?_;refine wpAny_Raise_call_subT (C:=C) (nm:=nm) (q:=q) (N:=N) (bs:=bs) (bm:=tl) (hdct:=hdct) (sn:=sn) (sub:=sub) (ab:=ab) (col:=col) (dd:=dd) (k0:=k0) (k1:=k1) (k2:=k2) (k3:=k3) (k5:=k5)
  FB (mN:=mN) (T.tail.hasType FB.hasBase) (R.hh fX) rfl (hq _<|.head _) (eP R.gd ok.en I hg Fr.bound ⟨rfl,?_⟩)
 refine Z5<|Z4<|wpAny_Constant_str (k:=kk) (pos:=ap)<|spliced_nil ?_;refine⟨rfl,(by show 1<=sizeLine;decide),I.base _ _ hC,hN.keeps I.base,T.tail.keeps I.base,λh' e hm=>?_⟩;exact aB hm.there λt Q=>(⟨k,e,KK,Z,rfl,rfl,I.grow hm.keeps,.grow hm.keeps,⟨hm.new,(I.fresh hm.new)⟩,_,_,C,mg,Q.1,⟨rfl,rfl⟩,rfl,R.gd.g,Fr.bound,.inl rfl⟩)
theorem Rn.mark(R:Rn A c n)(a:Addr):Rn (A.mark<|some<|.ref a) {c with hd:=true} n:=⟨R.gd,R.cs,R.dep,R.un,λq=>by cases q⟩
theorem HS.mem{M:List (Str×Ex)}(H:HS V hs M){LT:VW bN×Fm}(h:Ff c nm M Y=some LT):nm∈tb.hc:=by induction H with
 |nil=>exact am h
 |@cons cn _ _ _ _ _ _ _ _ hm _ _ ih=>
  rw[Hk]at h;by_cases q:cn=nm
  .exact q▸hm
  .rw[YY q]at h;exact ih h
theorem DH{m:bF Rv}{LT:VW bN×Fm}(h:IU m=some LT):∃d f,m=some (.ok<|.fz d,f)/\LT=(.ok<|.ret<|.fz d,f):=by rcases m with _|⟨_|⟨_|_|_⟩,f⟩<;>first|exact am h|exact⟨_,_,rfl,(aE h).symm⟩
theorem w7{M:List (Str×Ex)}{LT:VW bN×Fm}{Q:Flow->Shared->Prop}{P:VQ}(H:HS V hs M)(R:Rn A c n)(en:aJ (A.mark<|some<|.ref a) V VN y)(hn:nm∈tb.hc)
  (I:Inv y KK Z s.heap Y) (Id:dv s.heap P a nm) (hP:∀b,P b->s₁.heap.get? b=none/\ ¬y.wr KK b/\ ¬y.F b/\ ¬Z b) (S:Step y bv af au s₁ KK Z s) (UJ:∀b,s.heap.get? b=none->s₀.heap.get? b=none) (kQ:∀f s',io y bv s₀ af au s₁ LT f s'->Q f s') (h:Ff c nm M Y=some LT):
  wpAny (model prog w) A (handleBy (.ref a) VN hs) Q E s:=by
 induction H with
 |nil=>exact am h
 |@cons cn p rp hp e x hs M hg hm ce _ ih=>
  rw[Hk]at h;refine aB (R.gd.ask cn hm) λCl J=>?_;refine wpAny_handleBy_cons (codeAny_handlers_test<|eP R.gd en I hg J.1 ?_) (by intro q;cases q);refine ak λG g1=>?_;obtain⟨pa,oe,vs,C,m,he,hc,AJ⟩:=id Id;refine g1 ?_;refine J.2 nm hn C ((Lo R.gd.g AJ.2.1 nm).trans AJ.2.2.1) prog w _ _ s a oe I.base he ⟨hc.1,hc.2,vs,AJ.1⟩ _ ?_;by_cases q:cn=nm
  .rw[YX q]at h;refine O (Y0 q.symm) ?_;refine er (DH h) λd f z=>?_;obtain rfl:=z.2;refine codeAny_handlers_suite<|Al Id λfy qN Gc=>?_;have iT:Step y bv af au s₁ KK Z {s with heap:=fy}:=S.lv I qN hP λaa f=>f.elim;refine wpAny_execs_cons<|wpAny_Return_some<|YS ((bc (R.mark a) V _ ce VN y en).1 KK Z {s with heap:=fy} Y _ z.1<|I.lv qN (λb p=>(hP b p).2) λaa f=>f.elim) (λv s' p=>?_) λaa ai x=>x.elim;obtain⟨r,ag,Z',q,I',S',R'⟩:=p;obtain rfl:=jk q;exact kQ _ _ ⟨.ret<|.fz d,ag,Z',rfl,I',iT.trans ((S'.strong en<|gf V (.e e x) ce).sub λaa h=>by cases h),v,rfl,R',d,rfl⟩
  .rw[YY q]at h;exact O (Y1 λe=>q e.symm)<|ih h
theorem Df{xb:List St}{M:List (Str×Ex)}(R:Rn A c n)(ok:dA A V VN y c bv ah)(H:HS V hs M)(de:hs≠ [])(Hb:SS A c y bv ah Z₀ s₀ (execs body VN) xb):
  mz A c y bv ah Z₀ s₀ (exec (.Try body hs [] [] pos) VN) (.tryx xb M):=by
 refine mz.of λKK Z s Y LT Q E kQ kE h I S=>?_;rw[Bl]at h;cases fX:c.hd with
 |true=>rw[fX]at h;exact am h
 |false=>
 rw[fX]at h;have h:=(YY Z7)▸h;refine er (List.exists_cons_of_ne_nil de) λh0 hs z=>?_;subst z;refine wpAny_Try_except ?_;rcases hb:dD c xb Y with _|⟨nm|k,aj⟩
 .have h:=hb▸h;exact am h
 .rw[hb,yt]at h;refine YS (Hb KK Z s Y _ hb I S) (λfl s' p=>?_) λev s₁ p=>?_
  .obtain⟨_,_,_,q,_⟩:=p;exact mI q
  obtain⟨CA,a,af,au,q1,rfl,ax,aW,Id⟩:=p;refine ak λG2 g3=>?_;cases q1;dsimp only at ax;refine er ok.en.top λe0 d8 U=>?_;refine aB (jg ax ok.en.stk) λl u=>?_;have cC:=u.1;have FF:=u.2.1;have Tv:=u.2.2;rw[U.1]at cC;obtain rfl:=aE cC;refine g3 ?_;refine nB U.1 U.2 FF ok.en.frame Id (λb e=>⟨aW.old b e,ax.fresh e⟩) λbV lv mV=>?_;have aO:Step y bv KK Z s af au {s₁ with heap:=bV}:=aW.lv ax lv (λb p=>p) Tv;exact w7 (s:= {s₁ with heap:=bV}) (s₀:=s₀) H R {ok.en with stk:=ok.en.stk,top:=ok.en.top} (H.mem h) (ax.lv lv (λb p=>p.2) Tv) mV (λb p=>p) aO (λb e=>S.old b<|aO.old b e) kQ h
 .rw[hb,C0]at h;obtain rfl:=aE h;refine YS (Hb KK Z s Y _ hb I S) (λfl s' p=>?_) λaa ai x=>x.elim;obtain⟨k',ag,Z',q,I',S',r⟩:=p;obtain rfl:=jk q;cases k with
  |next=>cases r;exact wpAny_execs_nil<|kQ _ _ ⟨.next,ag,Z',rfl,I',S',rfl⟩
  |ret rv=>exact aB r λv r=>(O r.1<|kQ _ _ ⟨.ret rv,ag,Z',rfl,I',S',v,rfl,r.2⟩)
theorem Mt{st:Stmt}:mz A c y bv ah Z₀ s₀ (exec st VN) .no:=by intro KK Z s Y LT h I S;exact am h
set_option tactic.hygienic true in
theorem B7{is:VS}{r:Rv}(h:asgT pin Y (.tup is) r=some av):∃X,c5 r=some (.tuple X)/\mT pin Y is X=some av:=by
 have h:(match c5 r with|some (.tuple X)=>mT pin Y is X|_=>none)=some av:=h;split at h
 .rename_i X hd;exact⟨X,hd,h⟩
 .exact am h
theorem J4{is:VS}{e:Ex}{LT:VW bN×Fm}(h:sB c (.asg (.tup is) e) Y=some LT):c.hd=false/\mF (k:=⟨λr Y=>mo (asgT c.pin Y (.tup is) r) λY=>some (.ok .next,Y)⟩) (ev c e Y)=some LT:=by have z:=EJ h;refine⟨?_,z.2⟩;cases hh:c.hd with
 |true=>exact absurd (by rw[hh];rfl) z.1
 |false=>rfl
theorem Dk{is:VS}{k:Nat}{p:Pos}{e:Ex}(R:Rn A c n)(ok:dA A V VN y c bv ah)(tg:TGs V es is)(ce:CE V aH e)(hc:dR aH=true)(ht:qH aH=true):
  mz A c y bv ah Z₀ s₀ (exec (.Assign [.Tuple es k p] aH pos) VN) (.asg (.tup is) e):=by
 intro KK Z s Y LT h I S;have Q:=J4 h;have fX:=Q.1;have h:=Q.2;refine Assign_Tuple (om ok.en ce (bc R V _ ce VN y ok.en).1 h I .refl λr av ao aK aC v bp h aF aW aO eK=>?_) (show swapsWith aH (some<|.Tuple es k p) pos.line VN=pure false from fD ce hc)<|sQ ce ht;refine aB (ba h) λkA Sq=>?_;have h:=Sq.2;refine O (aE h).symm ?_;refine ak λG g=>?_;refine aB (B7 Sq.1) λX q=>?_;obtain⟨gH,fW,iT,uF⟩:=eK.freeze aF aW q.1;exact g<|uK (t:=.tup is) ok (R.hh fX) (.tup (k:=k) (p:=p) tg) (d:=.tuple X) q.2 fW uF λs' aa I' S'=>(⟨.next,ao,gH,rfl,I',(iT.sub λaa h=>by cases h).trans S',rfl⟩)
end
section
variable {A:Around}{c:Cfg}{n:Nat}{VN:Env}{V:Sc}{y:Lay}{bv:VS}{ah:VP}{Z₀:VQ}{s₀:Shared}
def SQ(A:Around)(c:Cfg)(y:Lay)(bv:VS)(ah:VP)(Z₀:VQ)(s₀:Shared)(VN:Env):Sw->Prop
 |.st s z=>mz A c y bv ah Z₀ s₀ (exec s VN) z
 |.ss ss zs=>SS A c y bv ah Z₀ s₀ (execs ss VN) zs
theorem Iq{V:Sc}{ss:List Stmt}{zs:List St}(h:yj V ss zs):∀(A:Around)(c:Cfg)(y:Lay)(bv:VS)(R:Rn A c n)(ok:dA A V VN y c bv ah),SS A c y bv ah Z₀ s₀ (execs ss VN) zs:=
 @CT.rec (λV q aa=> ∀(A:Around)(c:Cfg)(y:Lay)(bv:VS)(R:Rn A c n)(ok:dA A V VN y c bv ah),SQ A c y bv ah Z₀ s₀ VN q)
  (λhx ce A c y bv R ok=>Io R ok hx ce) (λhx ce hc A c y bv R ok=>Dl R ok hx ce hc) (λhx ce ck A c y bv R ok=>Dh R ok hx ce ck) (λhx ce hp A c y bv R ok=>Ip R ok hx ce hp) (λhx A c y bv R ok=>Dg R ok hx) (λhx hz ce A c y bv R ok=>De R ok hx hz ce) (λce hc A c y bv R ok=>Il R ok ce hc)
  (λce aa ai ia ib A c y bv R ok=>Ij R ok ce (ia A c y bv R ok)<|ib A c y bv R ok) (λce A c y bv R ok=>Ig R ok ce) (λce ca cb A c y bv R ok=>Di R ok ce ca cb)
  (λtg hz fU aa ib A c y bv R ok=>Ik R ok tg hz fU<|ib A c y bv R ok) (λce aa ib A c y bv R ok=>Ie R ok ce<|ib A c y bv R ok) (λhg hk A c y bv R ok=>yC R ok hg hk) (λaa H de ib A c y bv R ok=>Df R ok H de<|ib A c y bv R ok)
  (λtg ce h1 h2 A c y bv R ok=>Dk R ok tg ce h1 h2) (λA c y bv R ok=>Mt) (λA c y bv R ok=>Ih) (λaa ai i1 i2 A c y bv R ok=>Dj (i1 A c y bv R ok)<|i2 A c y bv R ok)
  (λrg hg hx OG de aa ib A c y bv R ok=>Ii R ok rg hg hx OG de λy' bv' Uq=>ib A c y' bv' R Uq) V (.ss ss zs) h
end
end Mv
namespace Mv
open PySem PyProof.Rows
noncomputable def bA(fn:Fn)(sn:Str):VT:=if fn.na=0 then [] else [sn]
noncomputable def mH(d:DefRec)(fn:Fn)(names:VT)(sn:Str):Sc:= {names:=d.scope.names,vars:=names.zipIdx fn.na,hi:=fn.na+(names++bA fn sn).length,sn:=sn,ats:=tb.an.zip (List.range fn.na)}
structure HO(f:Nat)(d:DefRec)(fn:Fn)(names:VT)(sn:Str):Prop where
 nd:(names++bA fn sn).Nodup
 np:fn.np<=fn.na+names.length
 pn:fn.na<=fn.np
 na:fn.na=if f<tb.m0 then 0 else tb.an.length
 rb:fn.rb=sX f
 kinds:∀x∈names,d.scope.names.lookup x=some .local\/d.scope.names.lookup x=some .cell
 skind:∀x∈bA fn sn,d.scope.names.lookup x=some .local
 bind:∀(J:Ins)(vs:VU),mD J=fn.na->fn.na+vs.length=fn.np-> ∀gn pm code gS,bindArgs (methDef d.name gn d.params d.body d.scope pm code gS) ⟨kq J++vs,[]⟩=pure ((bA fn sn++names.take (fn.np-fn.na)).zip<|kq J++vs)
 body:yj (mH d fn names sn) d.body fn.body
 co:d.scope.isCoroutine=false
 gen:d.scope.isGenerator=false
 kind:d.scope.kind = .function
 nofree:∀x∈d.scope.names,x.2≠ .free
variable [Hp]
theorem uB{k:Str->Option NameKind}:∀(bs:List (Str×Value))(m:Str->Option Value)(x:Str),x∉bs.map (·.1)->bindL k bs m x=m x:=by intro r m x h;induction r generalizing m x with
 |nil=>exact rfl
 |cons p0 r ih=>
  simp only[Zz,Zv,not_or]at h;unfold bindL;refine O (ih _ x h.2) ?_;split
  .exact YY h.1
  .rfl
theorem kf{k:Str->Option NameKind}:∀(bs:List (Str×Value))(m:Str->Option Value)(i:Nat)(x:Str)(v:Value),(bs.map (·.1)).Nodup->bs[i]?=some (x,v)->k x=some .local->bindL k bs m x=some v
 |[],_,_,_,_,_,h,_=>by simp at h
 |(n,u)::r,m,0,x,v,hn,h,hk=>by simp at h;obtain⟨rfl,rfl⟩:=h;unfold bindL;refine O (uB r _ n (nodup_cons.mp hn).1)<|O (YX hk) ?_;simp
 |(n,u)::r,m,i+1,x,v,hn,h,hk=>by unfold bindL;exact kf r _ i x v (nodup_cons.mp hn).2 h hk
theorem uC{k:Str->Option NameKind}:∀(bs:List (Str×Value))(m:Str->Option Value)(x:Str),x∉bs.map (·.1)->bindC k bs m x=m x:=by intro r m x h;induction r generalizing m x with
 |nil=>exact rfl
 |cons p0 r ih=>
  simp only[Zz,Zv,not_or]at h;unfold bindC;refine O (ih _ x h.2) ?_;split
  .rfl
  .exact YY h.1
theorem nX{k:Str->Option NameKind}:∀(bs:List (Str×Value))(m:Str->Option Value)(i:Nat)(x:Str)(v:Value),(bs.map (·.1)).Nodup->bs[i]?=some (x,v)->k x≠some .local->bindC k bs m x=some v
 |[],_,_,_,_,_,h,_=>by simp at h
 |(n,u)::r,m,0,x,v,hn,h,hk=>by simp at h;obtain⟨rfl,rfl⟩:=h;unfold bindC;refine O (uC r _ n (nodup_cons.mp hn).1)<|O (YY hk) ?_;simp
 |(n,u)::r,m,i+1,x,v,hn,h,hk=>by unfold bindC;exact nX r _ i x v (nodup_cons.mp hn).2 h hk
theorem mS:∀(names:List (Str×NameKind))(n:Nat)(VM:List (Str×Addr))(p:Str×Addr),p∈VM->p∈cellsFrom n names VM:=by intro r n VM p h;induction r generalizing n VM p h with
 |nil=>exact h
 |cons p0 r ih=>
  unfold cellsFrom;split
  .exact ih _ _ p (Zu _ h)
  .exact ih _ _ p h
theorem mR:∀(names:List (Str×NameKind))(n:Nat)(VM:List (Str×Addr))(x:Str),(x,NameKind.cell)∈names-> ∃c,(x,c)∈cellsFrom n names VM:=by intro r n VM x h;induction r generalizing n VM x with
 |nil=>cases h
 |cons p0 r ih=>
  obtain⟨nm,k⟩:=p0;unfold cellsFrom;rcases mem_cons.mp h with q|h
  .cases q;exact O (YX (by decide))<|⟨n,mS r _ _ _ Zt⟩
  .split
   .exact ih _ _ x h
   .exact ih _ _ x h
theorem fM:∀{names:VT}{x:Str}{i k:Nat},(names.zipIdx k).lookup x=some i->k<=i/\names[i-k]?=some x:=by intro l x i k h;induction l generalizing x i k with
 |nil=>exact am h
 |cons a l ih=>rw[zipIdx_cons,ZC]at h;cases hx:x==a with
  |true=>rw[hx]at h;refine O (aE h) ?_;simp only[beq_iff_eq]at hx;subst hx;exact⟨Zh _,by simp⟩
  |false=>
   have q:=ih<|hx▸h;refine⟨by exact(L1 [k,i] .x .y (.p 1 .x) .y rfl q.1),?_⟩;obtain⟨m,rfl⟩:∃m,i=k+1+m:=⟨i-(k+1),by exact(Le [i,k,i-(k+(1:Nat))] (.e .x<|.a (.p 1 .y) .z) [Gq (.a .z<|.p 1 .y) .x] rfl<|Za (n:=i) (m:=k+(1:Nat)) q.1)⟩
   refine O (show k+1+m-k=m+1 from by exact(Le [k+(1:Nat)+m-k,m,k] (.e .x<|.p 1 .y) [Gp (.a .x .z)<|.a (.p 1 .z) .y] rfl<|Za (n:=k+(1:Nat)+m) (m:=k)<|L1 [k,m] .x (.a (.p 1 .x) .y) (.p 1 .x) (.a (.p 1 .x) .y) rfl q.1))<|O (List.getElem?_cons_succ) ?_;exact((show k+1+m-(k+1)=m from by exact(Le [k+(1:Nat)+m-(k+(1:Nat)),m,k] (.e .x .y) [Gp (.a .x<|.p 1 .z)<|.a (.p 1 .z) .y] rfl<|Za (n:=k+(1:Nat)+m) (m:=k+(1:Nat)) q.1))▸q.2)
noncomputable def kC(kindOf:Str->Option NameKind)(L:Addr)(cells:List (Str×Addr))(names:VT)(i:Nat):Option Loc:=match names[i]? with
 |none=>none
 |some x=>if kindOf x=some .local then some (.dict L x) else(cells.lookup x).map .cell
set_option tactic.hygienic true in
theorem tW{k:Str->Option NameKind}{L:Addr}{cells:List (Str×Addr)}{names:VT}(h:kC k L cells names i=some l):
  ∃x,names[i]?=some x/\((k x=some .local/\l = .dict L x)\/(k x≠some .local/\ ∃c,cells.lookup x=some c/\l = .cell c)):=by
 unfold kC at h;split at h
 .exact am h
 .rename_i x hx;refine⟨x,hx,?_⟩;split at h
  .rename_i hk;exact O (aE h)<|.inl ⟨hk,rfl⟩
  .rename_i hk;rw[map_eq_some_iff]at h;obtain⟨c,h⟩:=h;refine O h.2.symm ?_;have hc:=h.1;exact .inr ⟨hk,c,hc,rfl⟩
theorem qz:∀{args:List Slot}{k j:Nat}{sl:Slot},args[j]?=some sl->sl.lent=true->k+j∈i9 k args
 |[],_,_,_,h,_=>by simp at h
 |a::r,k,0,sl,h,hl=>by simp at h;subst h;rw[qA];exact O (YX hl) Zt
 |a::r,k,j+1,sl,h,hl=>by
  have:=qz (k:=k+1) (j:=j) (args:=r) h hl;rw[show k+1+j=k+(j+1) from by exact(Le [k,j] (.e (.a (.p 1 .x) .y)<|.a .x<|.p 1 .y) [] rfl)]at this;rw[qA]
  split
  .exact Zu _ this
  .exact this
set_option tactic.hygienic true in
theorem DQ:∀{args:List Slot}{vs:VU}{Y:Fm}{k:Nat},(∀(j:Nat)(sl o:Slot)(v:Value),args[j]?=some sl->sl.lent=true->vs[j]?=some v->Y[j]?=some o->o≠ .no->dH h Z' (λa=>ag a=some (k+j)) o v)->gI ag Z' h k args vs (g9 args Y):=by intro r vs Y k H;induction r generalizing vs Y k with
 |nil=>first|exact trivial|(cases vs<;>exact trivial)
 |cons a r ih=>cases vs with
  |nil=>exact trivial
  |cons v vs=>
    have tl:∀(j:Nat)(sl o:Slot)(u:Value),r[j]?=some sl->sl.lent=true->vs[j]?=some u->Y.tail[j]?=some o->o≠ .no->dH h Z' (λa=>ag a=some (k+1+j)) o u:=λj sl o u e1 hl e2 e3 n=>by
     have:=H (j+1) sl o u e1 hl e2 (by cases Y with
      |nil=>simp at e3
      |cons x M=>simpa using e3) n
     rwa [show k+(j+1)=k+1+j from by exact(Le [k,j] (.e (.a .x<|.p 1 .y)<|.a (.p 1 .x) .y) [] rfl)]at this
    rw[r5,y5];split
    .rename_i hl;refine⟨Y.headD .no,g9 r Y.tail,rfl,λn=>?_,(ih tl)⟩;cases Y with
     |nil=>exact absurd rfl n
     |cons x M=>exact H 0 a x v rfl hl rfl rfl n
    .exact(ih tl)
theorem nj{l:VT}(hn:l.Nodup)(hi:i<l.length)(h:l[i]?=l[j]?):i=j:=by exact(List.getElem?_inj hi hn).mp h
end Mv
end
section
namespace Mv
open PySem PyProof.Rows
variable [Hp]
noncomputable def bP(J:Ins)(fn:Fn)(VN:Env)(names:VT)(sn:Str)(F:VQ):Lay:=
 ⟨λj=>if j<fn.na then j3 J j else kC VN.kindOf VN.locals VN.cells (names++bA fn sn) (j-fn.na),VN.locals,F,fn.na+names.length,J.map λt=>(t.1,t.2.1)⟩
section
variable {J:Ins}{fn:Fn}{VN:Env}{names:VT}{sn:Str}{F:VQ}{j k:Nat}{l:Loc}{x:Str}
inductive Gv(J:Ins)(fn:Fn)(VN:Env)(nms:VT)(j:Nat):Loc->Prop
 |att {l:Loc}:j<fn.na->j3 J j=some l->Gv J fn VN nms j l
 |loc {x:Str}:fn.na<=j->nms[j-fn.na]?=some x->VN.kindOf x=some .local->Gv J fn VN nms j (.dict VN.locals x)
 |cell {x:Str} {c:Addr}:fn.na<=j->nms[j-fn.na]?=some x->VN.cells.lookup x=some c->Gv J fn VN nms j (.cell c)
theorem cy(h:(bP J fn VN names sn F).loc j=some l):Gv J fn VN (names++bA fn sn) j l:=by
 have h:(if j<fn.na then j3 J j else kC VN.kindOf VN.locals VN.cells (names++bA fn sn) (j-fn.na))=some l:=h;by_cases q:j<fn.na
 .rw[YX q]at h;exact .att q h
 .rw[YY q]at h;obtain⟨x,hx,⟨hk,rfl⟩|⟨_,c,hc,rfl⟩⟩:=tW h
  .exact .loc (Nat.not_lt.mp q) hx hk
  .exact .cell (Nat.not_lt.mp q) hx hc
theorem o6(h:(names++bA fn sn)[k]?=some x)(hk:VN.kindOf x=some .local):(bP J fn VN names sn F).loc (fn.na+k)=some (.dict VN.locals x):=by
 show(if fn.na+k<fn.na then _ else kC _ _ _ _ (fn.na+k-fn.na))=_
 refine O (YY<|Nat.not_lt.mpr<|Zl _ _) ?_;rw[Zm];unfold kC;exact O h<|YX hk
theorem vz{c:Addr}(h:(names++bA fn sn)[k]?=some x)(hk:VN.kindOf x=some .cell)(hc:VN.cells.lookup x=some c):(bP J fn VN names sn F).loc (fn.na+k)=some (.cell c):=by
 show(if fn.na+k<fn.na then _ else kC _ _ _ _ (fn.na+k-fn.na))=_
 refine O (YY<|Nat.not_lt.mpr<|Zl _ _) ?_;rw[Zm];unfold kC;refine O h ?_;show(if VN.kindOf x=some .local then _ else _)=_
 refine O (YY (by refine O hk ?_;intro z;cases z))<|O hc ?_;rfl
theorem jD(h:j<fn.na):(bP J fn VN names sn F).loc j=j3 J j:=YX h
end
theorem sF{l:VT}{k:Nat}(h:x∈l):(l.zipIdx k).lookup x≠none:=by induction l generalizing k with
 |nil=>cases h
 |cons a l ih=>refine O zipIdx_cons<|O ZC ?_;cases e:x==a with
  |true=>exact λq=>am q.symm
  |false=>
   rcases mem_cons.mp h with q|q
   .rw[q]at e;simp at e
   .exact ih q
theorem O8:tb.an.Nodup:=by show Nodup [("functions" :Str),"sorting","found","numbers"]; decide
theorem Ca:tb.an.length≠0:=by show 4≠0;decide
structure CC(J:Ins)(fn:Fn)(d:DefRec)(names:VT)(sn:Str)(VN:Env)(F:VQ)(KK:VP)(Z:VQ)(s s₁:Shared)(args:List Slot)(vs:VU):Prop where
 na:mD J=fn.na
 nd:(names++bA fn sn).Nodup
 kinds:∀x∈names,VN.kindOf x=some .local\/VN.kindOf x=some .cell
 skind:∀x∈bA fn sn,VN.kindOf x=some .local
 kd:∀x,VN.kindOf x=d.scope.names.lookup x
 up:∀b o,s.heap.get? b=some o->b<VN.locals
 kp:∀b o,s.heap.get? b=some o->s₁.heap.get? b=some o
 same:∃h tk,s₁={s with heap:=h,toks:=tk}
 ns:∃m,s₁.heap.Ns VN.locals m
 cl:∀x c,VN.cells.lookup x=some c->VN.locals<c/\ ∃v,s₁.heap.IsCell c v
 ca:∀x z c,VN.cells.lookup x=some c->VN.cells.lookup z=some c->x=z
 cx:∀x,VN.kindOf x=some .cell-> ∃c,VN.cells.lookup x=some c
 ar:∀(k:Nat)(v:Value),vs[k]?=some v-> ∃l,(bP J fn VN names sn F).loc (fn.na+k)=some l/\eU s₁.heap l v
 sr:∀x o dx,J=some (x,o,dx)->eU s₁.heap (.dict VN.locals sn) (.ref x)
 G:Gh F KK Z s.heap
 IJ:uG F KK Z s.heap J
 SA:iJ J KK Z s.heap args vs
section
variable {A:Around}{J:Ins}{fn:Fn}{d:DefRec}{VN:Env}{names:VT}{sn:Str}{F:VQ}{KK ag:VP}{Z Z':VQ}{s s₁ s':Shared}{args:List Slot}{vs:VU}{bv:VS}{dU:Fm}
theorem lE(h:fn.na≠0):bA fn sn=[sn]:=YY h
theorem CC.att(C:CC J fn d names sn VN F KK Z s s₁ args vs)(h:j3 J i=some l):∃x o dx a,J=some (x,o,dx)/\l = .attr dx tb.an a/\tb.an[i]?=some a/\vX F KK Z s.heap x o dx/\dx<VN.locals:=by
 rcases J with _|⟨x,o,dx⟩
 .exact am h
 .obtain⟨a,q⟩:=Z9 h;refine O q.2.symm ?_;refine⟨x,o,dx,a,rfl,rfl,q.1,(C.IJ x o dx rfl),?_⟩;obtain⟨m,⟨o',_,_,e,_⟩,_⟩:=(C.IJ x o dx rfl).ok;exact C.up dx o' e
theorem CC.jna(C:CC J fn d names sn VN F KK Z s s₁ args vs)(h:J≠none):fn.na=tb.an.length/\fn.na≠0:=by
 rcases J with _|j
 .exact absurd rfl h
 .exact⟨C.na.symm,λq=>Ca<|C.na.trans q⟩
theorem CC.locA(C:CC J fn d names sn VN F KK Z s s₁ args vs)(h:i<fn.na):∃l,j3 J i=some l:=by
 have h:=C.na▸h;rcases J with _|⟨x,o,dx⟩
 .cases h
 .exact⟨.attr dx tb.an<|tb.an[i]'h,by show Option.map _ _=_;refine O (ZK h) ?_;rfl⟩
theorem CC.lg(C:CC J fn d names sn VN F KK Z s s₁ args vs)(h:(bP J fn VN names sn F).loc i=some l):VN.locals<=l.addr\/j3 J i=some l:=by cases cy h with
 |att q e=>exact .inr e
 |loc=>exact .inl<|Zh _
 |cell _ _ hc=>exact .inl<|le_of_lt (C.cl _ _ hc).1
inductive Ls(y:Lay)(VN:Env)(i:Nat)(x:Str):Prop
 |loc:y.loc i=some (.dict VN.locals x)->VN.kindOf x=some .local->Ls y VN i x
 |cell (c:Addr):y.loc i=some (.cell c)->VN.kindOf x=some .cell->VN.cells.lookup x=some c->Ls y VN i x
theorem CC.locS(C:CC J fn d names sn VN F KK Z s s₁ args vs){k:Nat}(h:names[k]?=some x):Ls (bP J fn VN names sn F) VN (fn.na+k) x:=by
 have h':(names++bA fn sn)[k]?=some x:=by exact O (ZM (List.getElem?_eq_some_iff.mp h).1) h
 rcases C.kinds x (Zs h) with q|q
 .exact .loc (o6 h' q) q
 .exact aB (C.cx x q) λc hc=>(.cell c (vz h' q hc) q hc)
theorem CC.self(C:CC J fn d names sn VN F KK Z s s₁ args vs)(h:J≠none):(names++bA fn sn)[names.length]?=some sn/\VN.kindOf sn=some .local/\(bP J fn VN names sn F).loc (fn.na+names.length)=some (.dict VN.locals sn):=by
 have e:=lE (sn:=sn) (C.jna h).2;have h1:(names++bA fn sn)[names.length]?=some sn:=by refine O (ZL<|Zh _) ?_;rw[Nat.sub_self];refine O e ?_;rfl
 have h2:=C.skind sn (by refine O e ?_;exact .head _);exact⟨h1,h2,o6 h1 h2⟩
theorem CC.ats(C:CC J fn d names sn VN F KK Z s s₁ args vs):(mH d fn names sn).as=List.range fn.na:=by
 refine List.map_snd_zip ?_;refine O ZE ?_;rcases J with _|j
 .exact C.na▸Y7 _
 .exact Zj C.na.symm
theorem CC.no(C:CC J fn d names sn VN F KK Z s s₁ args vs):(mH d fn names sn).ats=[]↔J=none:=by
 rcases J with _|j
 .refine⟨λaa=>rfl,λaa=>?_⟩;show tb.an.zip (List.range fn.na)=[]
  exact O C.na.symm zip_nil_right
 .refine⟨λq=>?_,λq=>am q.symm⟩;have h1:((mH d fn names sn).as).length=0:=by unfold Sc.as;refine O q ?_;rfl
  rw[C.ats,ZE]at h1;exact absurd h1 (C.jna (λq=>am q.symm)).2
theorem CC.insOk(C:CC J fn d names sn VN F KK Z s s₁ args vs){x:Addr}(hJ:J=some (x,o,dx)):kJ (mH d fn names sn) VN (bP J fn VN names sn F) (x,o) dx:=by
 have ia:=C.IJ x o dx hJ;have hn:J≠none:=by exact O hJ (λq=>am q.symm)
 have lo:∀{k:Nat}{a:Str},tb.an[k]?=some a->(bP J fn VN names sn F).loc k=some (.attr dx tb.an a):=fun {k a} h=>by
  refine O (jD (by refine O ((C.jna hn).1) ?_;exact(List.getElem?_eq_some_iff.mp h).1))<|O hJ ?_;show Option.map _ _=_
  refine O h ?_;rfl
 have co:∀i l,(bP J fn VN names sn F).loc i=some l->l.addr=dx->j3 J i=some l:=λi l h q=>by
  rcases C.lg h with g|g
  .refine ak λG g1=>?_;obtain⟨m,⟨o',_,_,e,_⟩,_⟩:=ia.ok;exact g1<|absurd (C.up dx o' e)<|Nat.not_lt.mpr<|q▸g
  .exact g
 refine⟨by unfold bP;refine O hJ ?_;rfl,ia.cls,ia.nc,ia.dic,ia.ne,(C.self hn).2.1,(C.self hn).2.2,λa i h=>?_,λk i h=>?_,by refine O C.ats<|O ZE ?_;exact(C.jna hn).1,λi l h q=>?_,λi l h q=>?_⟩
 .refine aB (lm h) λk u=>?_;refine aB (List.getElem?_eq_some_iff.mp u.2) λh3 h4=>?_;rw[getElem_range]at h4;subst h4;exact⟨Zs u.1,lo u.1⟩
 .have h:=C.ats▸h;refine aB (List.getElem?_eq_some_iff.mp h) λh3 h4=>?_;rw[getElem_range]at h4;subst h4;rw[ZE]at h3;have h3:=((C.jna hn).1)▸h3;exact⟨_,ZK h3,lo<|ZK h3⟩
 .refine O C.ats ?_;rw[mem_range];exact O C.na.symm<|(eO<|co i l h q).1
 .refine pc (C.att<|co i l h q) λaa ai br a Q=>?_;have e1:=Q.1;have e2:=Q.2.1;rw[hJ]at e1;cases e1;exact⟨a,e2⟩
theorem CC.en(C:CC J fn d names sn VN F KK Z s s₁ args vs)(Hg:Gu F A)(hk:VN.scope.kind = .function)(hg:VN.globals=mainGlobals)(hb:VN.builtins=builtinsNs)(hf:VN.frame=some VN.locals):aJ (A.deeper VN) (mH d fn names sn) VN (bP J fn VN names sn F):=by
 refine⟨?_,λi l h=>?_,hk,hg,hb,hf,(let ⟨l,hl,_⟩:=Hg;⟨VN,l,Around.frames_deeper hl,rfl⟩),λx i hx=>?_,λx hx=>by rw[C.kd];exact hx,λx hx=>by rw[C.kd];exact hx,λne=>?_,λx i hx p hp q=>?_,λp hp=>?_⟩
 .refine aB Hg λl Hg=>?_;refine⟨_,Around.frames_deeper Hg.1,λe he=>?_⟩;rcases mem_cons.mp he with he|he
  .exact O he (⟨(by refine O hk ?_;intro q;cases q),_,hf,.inr rfl⟩)
  .obtain⟨h1,L,Q⟩:=Hg.2 e he;exact⟨h1,L,Q.1,.inl Q.2⟩
 .have k2:∀{x:Str},fn.na<=i->(names++bA fn sn)[i-fn.na]?=some x->i<fn.na+(names++bA fn sn).length:=λq hx=>by
   have:=(List.getElem?_eq_some_iff.mp hx).1;exact(Ln [i,fn.4,(names++bA fn sn).length,i-fn.na] (.w (.p 1 .x)<|.a .y .z) [Gl (.p 1 .u) .z,Gf (.a .u .y) .x] rfl this<|Za (n:=i) (m:=fn.na) q)
  cases cy h with
  |att q=>exact Zd q<|Zl _ _
  |loc q hx=>exact k2 q hx
  |cell q hx=>exact k2 q hx
 .have U:=fM hx;have q:=U.1;have hx:=U.2;have ls:=C.locS hx;have ls:=(Zn q)▸ls;cases ls with
  |loc hl hk=>exact .inl ⟨hk,hl⟩
  |cell c hl hk hc=>exact .inr ⟨.inl hk,c,hc,hl⟩
 .refine ak λG g1=>?_;rcases hJ:J with _|⟨x,o,dx⟩
  .exact g1 (absurd (C.no.mpr hJ) ne)
  .exact g1 (⟨(x,o),dx,hJ▸C.insOk hJ⟩)
 .have j:=fM hx;have:=(List.getElem?_eq_some_iff.mp j.2).1;exact(Lf [i-fn.na,names.length,fn.4,i] [Gl (.p 1 .x) .y,Ge (.a .z .y) .u,Gf (.a .x .z) .u] rfl this q<|Za (n:=i) (m:=fn.na) j.1)
 .have hn:J≠none:=λq=>by unfold bP at hp;have hp:=q▸hp;exact am hp
  exact⟨_,(C.self hn).2.2⟩
set_option tactic.hygienic true in
theorem CC.inv(C:CC J fn d names sn VN F KK Z s s₁ args vs)(m:Nat):Inv (bP J fn VN names sn F) KK Z s₁.heap (args++replicate m .no):=by
 have sm:∀{a b:Nat},a<b->b<=a->False:=λh k=>Zf _<|Zd h k;have lk:∀{p:Prop}{i:Nat}{l:Loc},(bP J fn VN names sn F).loc i=some l->(∃o,s.heap.get? l.addr=some o)->(∀x o dx a,l = .attr dx tb.an a->vX F KK Z s.heap x o dx->p)->p:=fun {p i l} h e k=>by
  rcases C.lg h with g|g
  .exact aB e λo e=>((sm (C.up _ o e) g).elim)
  .exact pc (C.att g) λx o dx a Q=>(k x o dx a Q.2.1 Q.2.2.2.1)
 refine⟨⟨λi j l k hl hk de hq=>?_,λi l hl f=>?_,λf=>?_,λi c hl q=>?_,λi a ns x hl q=>?_⟩,λb o e=>C.kp b o<|C.G.base b o e,C.G.zb,C.G.zo,λi l hl z=>?_,λi l hl=>?_,λz=>?_,?_,C.G.zF,C.G.oF,λb z=>?_,λb q=>?_,λb f=>?_,λi l hl=>?_,C.ns,λp hp=>?_,λi sl e n=>?_⟩
 .have nd:∀{x z:Str},fn.na<=i->fn.na<=j->(names++bA fn sn)[i-fn.na]?=some x->(names++bA fn sn)[j-fn.na]?=some z->x≠z:=λg1 g2 hx hz q=>by
   have:=nj (i:=i-fn.na) (j:=j-fn.na) C.nd (List.getElem?_eq_some_iff.mp hx).1<|O hx<|O hz<|O q rfl;exact(Or.elim (Nat.lt_or_gt_of_ne de) (λzH=>(Lf [i-fn.na,j-fn.na,i,j,fn.4] [Gf .x .y,Gl (.p 1 .z) .u,Ge (.a .x<|.v 4) .z,Gf (.a .y<|.v 4) .u] rfl this zH (Za (n:=i) (m:=fn.na) g1)<|Za (n:=j) (m:=fn.na) g2)) (λzH=>(Lf [i-fn.na,j-fn.na,j,i,fn.4] [Ge .x .y,Gl (.p 1 .z) .u,Gf (.a .x<|.v 4) .u,Ge (.a .y<|.v 4) .z] rfl this zH (Za (n:=i) (m:=fn.na) g1)<|Za (n:=j) (m:=fn.na) g2)))
  cases cy hl with
  |att _ e=>refine pc (C.att e) λx o dx a U=>?_;obtain rfl:=U.2.1;have e1:=U.1;have ha:=U.2.2.1;have lt:=U.2.2.2.2;cases cy hk with
   |att _ e'=>refine pc (C.att e') λx' o' PR a' q8=>?_;refine O q8.2.1 ?_;have TJ:=q8.1;have U6:=q8.2.2.1;rw[e1]at TJ;cases TJ;exact .attr dx tb.an a a' rfl rfl λq=>de<|nj O8 (List.getElem?_eq_some_iff.mp ha).1<|O ha<|O U6<|O q rfl
   |loc=>exact(sm lt<|Zj hq.symm).elim
   |cell _ _ hc=>exact(sm (Nat.lt_trans lt (C.cl _ _ hc).1)<|Zj hq.symm).elim
  |loc g1 hx=>cases cy hk with
   |att _ e'=>refine pc (C.att e') λx' o' PR a' q3=>?_;obtain rfl:=q3.2.1;exact(sm q3.2.2.2.2<|Zj hq).elim
   |loc g2 hz=>exact .dict _ _ _ rfl rfl<|nd g1 g2 hx hz
   |cell _ _ hc=>exact(sm (C.cl _ _ hc).1<|Zj hq.symm).elim
  |cell g1 hx hc=>cases cy hk with
   |att _ e'=>refine pc (C.att e') λx' o' PR a' q2=>?_;obtain rfl:=q2.2.1;exact(sm (Nat.lt_trans q2.2.2.2.2 (C.cl _ _ hc).1)<|Zj hq).elim
   |loc=>exact(sm (C.cl _ _ hc).1<|Zj hq).elim
   |cell g2 hz ri=>cases(hq:_=_);exact absurd (C.ca _ _ _ hc ri)<|nd g1 g2 hx hz
 .exact lk hl (let ⟨o,e,_⟩:=C.G.flv _ f;⟨o,e⟩) λx o dx a e ia=>ia.fd (by have f:=e▸f;exact f)
 .exact aB (C.G.flv _ f) λo Ul=>(Zf _<|C.up _ o Ul.1)
 .refine ak λG1 g3=>?_;cases cy hl with
  |att _ e=>refine g3 ?_;refine pc (C.att e) λaa ai br eH q1=>?_;have e2:=q1.2.1;exact nomatch e2
  |cell _ _ hc=>exact g3<|sm (C.cl _ _ hc).1<|Zj q
 .cases cy hl with
  |att _ e=>refine pc (C.att e) λaa ai br eH q9=>?_;have e2:=q9.2.1;have lt:=q9.2.2.2.2;injection e2 with e2;subst e2;exact sm lt<|Zj q.symm
 .exact lk hl (C.G.zlv _ z) λx o dx a e ia=>ia.zd (by have z:=e▸z;exact z)
 .cases q:KK l.addr with
  |none=>rfl
  |some k=>exact lk hl (C.G.olv _ (by refine O q ?_;exact λz=>am z.symm)) λx o dx a e ia=>by have q:=e▸q;have q:KK dx=some k:=q;rw[ia.od]at q;exact am q
 .exact aB (C.G.zlv _ z) λo e=>(Zf _<|C.up _ o e)
 .show KK VN.locals=none
  cases q:KK VN.locals with
  |none=>rfl
  |some k=>obtain⟨o,e⟩:=C.G.olv VN.locals (by refine O q ?_;exact λz=>am z.symm);exact absurd (C.up _ o e)<|Zf _
 .obtain⟨o,e⟩:=C.G.zlv b z;exact⟨o,C.kp b o e⟩
 .obtain⟨o,e⟩:=C.G.olv b q;exact⟨o,C.kp b o e⟩
 .obtain⟨o,q6⟩:=C.G.flv b f;exact⟨o,C.kp b o q6.1,q6.2⟩
 .cases cy hl with
  |att _ e=>refine pc (C.att e) λaa ai br eH q0=>?_;refine O q0.2.1 ?_;exact qD.keeps (l:=.attr _ tb.an _) (h:=s.heap) (λo=>C.kp _ o) q0.2.2.2.1.ok
  |loc=>exact C.ns
  |cell _ _ hc=>exact(C.cl _ _ hc).2
 .rcases hJ:J with _|⟨x,o,dx⟩
  .subst hJ;cases(hp:none=some p)
  .have ia:=C.IJ x o dx hJ;have hn:J≠none:=by exact O hJ (λq=>am q.symm)
   have q4:=C.self hn;have s3:=q4.2.2;have hp:=(show(bP J fn VN names sn F).slf=some (x,o) by unfold bP;refine O hJ ?_;rfl)▸hp;exact O (aE hp).symm<|O hJ.symm<|⟨ia.zx,C.kp _ _ ia.ob,_,s3,C.sr x o dx hJ⟩
 .rw[List.getElem?_append]at e;split at e
  .rename_i wZ;by_cases hi:i<fn.na
   .exact aB (C.locA hi) λl hl=>(aB (C.SA.2.1 i sl l e hl n) λv q7=>(⟨l,v,by refine O (jD hi) ?_;exact hl,q7.1.keeps λo=>C.kp _ o,q7.2.mono (λb o aa=>C.kp b o) (λaa z=>z) (λaa z=>z) λb o aa=>C.kp b o⟩))
   .obtain⟨k,rfl⟩:∃k,i=fn.na+k:=⟨i-fn.na,by exact(Zk (Ln [i,fn.4,i-fn.na] (.w .x<|.a .y .z) [Gf (.a .z .y) .x] rfl<|Za (n:=i) (m:=fn.na)<|L1 [fn.4,i] .x .y .x .y rfl<|Nat.not_lt.mp hi)<|Ln [fn.4,i-fn.na,i] (.w (.a .x .y) .z) [Ge (.a .y .x) .z] rfl<|Za (n:=i) (m:=fn.na)<|L1 [fn.4,i] .x .y .x .y rfl<|Nat.not_lt.mp hi)⟩
    have hl:=C.SA.1;rw[C.na]at hl;have hv:k<vs.length:=by exact(Ln [k,vs.length,fn.4,args.length] (.w (.p 1 .x) .y) [Gl (.p 1<|.a .z .x) .u,Ge .u<|.a .z .y] rfl wZ hl)
    refine aB (C.ar k _<|ZK hv) λl q5=>?_;have sv:=(C.SA.2.2 k sl vs[k] (by refine O C.na ?_;exact e) (ZK hv)).2;rw[C.na]at sv;exact⟨l,_,q5.1,q5.2,sv.mono (λb o aa=>C.kp b o) (λaa z=>z) (λaa z=>z) λb o aa=>C.kp b o⟩
  .rw[List.getElem?_replicate]at e;split at e
   .obtain rfl:=aE e;exact absurd rfl n
   .exact am e
theorem zV{m:Nat}(hp:i∈pin):i∉(List.range m).filter λi=>decide (i∉pin):=λq=>by have:=(mem_filter.mp q).2;simp[hp]at this
theorem DP{na k:Nat}(hk:k<na)(hn:k∉rb):k∈fF na rb args:=by refine Zx _<|mem_filter.mpr ⟨mem_range.mpr hk,?_⟩;simpa using hn
inductive sk(J:Ins)(rb:VS)(F:VQ)(KK:VP)(Z:VQ)(s:Shared)(args:List Slot)(vs:VU)(aM:List Slot)(ag:VP)(Z':VQ)(s':Shared):Prop
 |mk:Gh F ag Z' s'.heap->uG F ag Z' s'.heap J->HL J rb F KK Z s ag Z' s'->vY J ag Z' s'.heap aM->mD J<=aM.length->gI ag Z' s'.heap (mD J) (args.drop<|mD J) vs (aM.drop<|mD J)->sk J rb F KK Z s args vs aM ag Z' s'
theorem CC.back{m:Nat}(C:CC J fn d names sn VN F KK Z s s₁ args vs)(I':Inv (bP J fn VN names sn F) ag Z' s'.heap dU)(S':Step (bP J fn VN names sn F) ((List.range m).filter λi=>decide<|i∉fF fn.na fn.rb args) KK Z s₁ ag Z' s'):sk J fn.rb F KK Z s args vs (hG fn.na args dU) ag Z' s':=by
 have fresh:∀b,s₁.heap.get? b=none->s.heap.get? b=none:=λb e0=>by cases z:s.heap.get? b with
  |none=>rfl
  |some o=>have e0:=(C.kp b o z)▸e0;exact nomatch e0
 have nwr:∀b o,s.heap.get? b=some o-> ¬(KK b≠none\/yg J b)-> ¬(bP J fn VN names sn F).wr KK b:=λb o e q w=>by
  rcases w with w|w|⟨i,l,hl,w⟩
  .exact q (.inl w)
  .exact Zf _ (w▸C.up b o e)
  .rcases C.lg hl with g|g
   .exact Zf _ (Zd (C.up b o e)<|w▸g)
   .exact q (.inr<|w▸(eO g).2)
 have la:(gg dU<|List.range fn.na).length=fn.na:=by unfold gg;rw[ZG];exact O ZE rfl
 refine⟨⟨I'.base,I'.zb,I'.zo,I'.zF,I'.oF,I'.zlv,I'.olv,I'.flv⟩,λx o dx hJ=>?_,⟨?_,⟨λb o e nw nf=>S'.ext.keep b o (C.kp b o e) (nwr b o e nw) nf,λb o e=>S'.ext.live b o<|C.kp b o e,λb o f e=>S'.ext.fram b o f<|C.kp b o e⟩,S'.zm,λb z=>(S'.zn b z).imp id λz=>z.imp id<|fresh b,λb i q=>(S'.on b i q).imp id<|fresh b,λk l v hk hl hr=>?_⟩,λk sl l e hl n=>?_,?_,?_⟩
 .have ia:=C.IJ x o dx hJ;have hn:J≠none:=by exact O hJ (λq=>am q.symm)
  have sf:=I'.sf (x,o) (by unfold bP;refine O hJ ?_;rfl);have h0:=Nat.pos_of_ne_zero (C.jna hn).2;refine ak λG g1=>?_;refine aB (C.locA h0) λl hl=>?_;refine pc (C.att hl) λaa ai br a Q=>?_;obtain rfl:=Q.2.1;have e1:=Q.1;rw[hJ]at e1;cases e1;have hy:(bP J fn VN names sn F).loc 0=some (.attr dx tb.an a):=by exact O (jD h0) hl
  exact g1<|⟨sf.z,sf.ob,ia.cls,ia.nc,ia.dic,ia.ne,I'.zl 0 _ hy,I'.ol 0 _ hy,ia.fd,I'.ok 0 _ hy⟩
 .exact er C.same λh1 Vw e1=>(er S'.sh λh2 Qh e2=>(⟨h2,Qh,by exact O e2<|O e1 rfl⟩))
 .have e6:k<fn.na:=C.na▸(eO hl).1;exact S'.bind k l v (zV<|DP e6 hk) (by refine O (jD e6) ?_;exact hl)<|hr.keeps λo=>C.kp _ o
 .have e6:k<fn.na:=C.na▸(eO hl).1;unfold hG at e;rw[ZM (by refine O la ?_;exact e6)]at e;refine ak λG1 g2=>?_;obtain⟨i,U⟩:=n4 e n;obtain⟨h3,h4⟩:=List.getElem?_eq_some_iff.mp U.1;rw[getElem_range]at h4;subst h4;obtain⟨l',v,cC,hr,sv⟩:=I'.at' _ sl U.2 n;rw[jD e6,hl]at cC;obtain rfl:=aE cC;exact g2<|⟨v,hr,sv⟩
 .unfold hG;exact O ZI<|O la<|O C.na<|Zl _ _
 .refine O C.na ?_;unfold hG;refine O (List.drop_append_of_le_length<|Zj la.symm) ?_;refine O (List.drop_eq_nil_of_le<|Zj la) ?_;rw[Zq];refine DQ λj sl o v ej hl ev ef n=>?_;refine ak λG2 g3=>?_;refine aB (C.ar j v ev) λl u=>?_;have ef:=(List.getElem?_drop)▸ef;obtain⟨l2,v2,vn,QX,sv⟩:=I'.at' (fn.na+j) o ef n;rw[u.1]at vn;obtain rfl:=aE vn;exact g3<|O ((S'.bind (fn.na+j) l v (zV<|Zw _<|qz ej hl) u.1 u.2).det QX) sv
end
noncomputable def uS:VW bN->VW Rv
 |.error e=>.error e
 |.ok .next=>.ok<|.fz .none
 |.ok (.ret r)=>.ok r
inductive Cx(P:Pr)(n:Nat)(hd:Bool)(f:Nat)(args:List Slot)(m9:VW Rv)(aM:List Slot):Prop
 |mk (fn:Fn) (Y:Fm) (o:VW bN):P.fns[f]?=some fn->args.length=fn.np->dD ⟨P.glob,cF P n,fF fn.na fn.rb args,hd⟩ fn.body (args++replicate (fn.nv-fn.np) .no)=some (o,Y)->uS o=m9->hG fn.na args Y=aM->Cx P n hd f args m9 aM
theorem B1{P:Pr}{hd:Bool}{m9:VW Rv}(h:cF P (n+1) hd f args=some (m9,aM)):Cx P n hd f args m9 aM:=by
 have h:(match P.fns[f]? with
  |none=>none
  |some fn=>if args.length=fn.np then A1 fn.na args (dD ⟨P.glob,cF P n,fF fn.na fn.rb args,hd⟩ fn.body<|args++replicate (fn.nv-fn.np) .no) else none)=some (m9,aM):=h
 cases hf:P.fns[f]? with
 |none=>have h:=hf▸h;exact am h
 |some fn=>
  rw[hf]at h;have h:(if args.length=fn.np then A1 fn.na args (dD ⟨P.glob,cF P n,fF fn.na fn.rb args,hd⟩ fn.body<|args++replicate (fn.nv-fn.np) .no) else none)=some (m9,aM):=h;by_cases q:args.length=fn.np
  .rw[YX q]at h;cases e:dD ⟨P.glob,cF P n,fF fn.na fn.rb args,hd⟩ fn.body (args++replicate (fn.nv-fn.np) .no) with
   |none=>rw[e]at h;exact am h
   |some p=>
    rw[e]at h;obtain⟨o,Y⟩:=p;rcases o with x|(_|r)
    .have h:=Y4<|aE h;exact⟨fn,Y,_,hf,q,e,h.1,h.2⟩
    .have h:=Y4<|aE h;exact⟨fn,Y,_,hf,q,e,h.1,h.2⟩
    .have h:=Y4<|aE h;exact⟨fn,Y,_,hf,q,e,h.1,h.2⟩
  .rw[YY q]at h;exact am h
section
variable {A:Around}{J:Ins}{f m:Nat}{fn:Fn}{d:DefRec}{VN:Env}{names:VT}{sn:Str}{F:VQ}{KK:VP}{Z:VQ}{s s₁ s':Shared}{args:List Slot}{vs:VU}{dU:Fm}{fa:Addr}{gn:Str}{pm code gS:Value}{o:VW bN}
theorem Jl(ok:HO f d fn names sn)(hJ:J=none↔f<tb.m0):mD J=fn.na:=by
 refine O ok.na ?_;rcases J with _|j
 .exact(YX<|hJ.mp rfl).symm
 .exact(YY λq=>am (hJ.mpr q).symm).symm
theorem qu(jR:mD J=fn.na):(bA fn sn).length=(kq J).length:=by
 unfold bA;rcases J with _|j
 .refine O (YX (show fn.na=0 from jR.symm)) ?_;rfl
 .refine O (YY (show ¬fn.na=0 from λq=>Ca<|jR.trans q)) ?_;rfl
noncomputable abbrev uA(J:Ins)(fn:Fn)(names:VT)(sn:Str)(vs:VU):List (Str×Value):=(bA fn sn++names.take (fn.np-fn.na)).zip<|kq J++vs
theorem qj(ok:HO f d fn names sn)(vm:fn.na+vs.length=fn.np):(names.take<|fn.np-fn.na).length=vs.length:=by have To:=ok.np;rw[<- vm]at To ⊢;rw[Zm];exact O length_take<|min_eq_left<|Nat.le_of_add_le_add_left To
theorem nW(ok:HO f d fn names sn)(jR:mD J=fn.na)(vm:fn.na+vs.length=fn.np):(uA J fn names sn vs).map (·.1)=bA fn sn++names.take (fn.np-fn.na):=
 List.map_fst_zip (by refine O ZI<|O ZI<|O (qu jR)<|O (qj ok vm) ?_;exact Zh _)
theorem nS(q:d.scope.names.lookup x=some .cell):∃c,(cellsFrom n d.scope.names []).lookup x=some c:=by refine aB (mR d.scope.names n [] x<|mem_of_lookup q) λc hc=>?_;exact aB (iW hc) λc' Q=>(⟨c',Q.1⟩)
theorem xO(ok:HO f d fn names sn)(jR:mD J=fn.na)(vm:fn.na+vs.length=fn.np)(x:Str×Value)(hx:x∈uA J fn names sn vs):d.scope.names.lookup x.1=some .local\/(d.scope.names.lookup x.1=some .cell/\((cellsFrom n d.scope.names []).lookup x.1).isSome=true):=by
 have hxn:x.1∈bA fn sn++names.take (fn.np-fn.na):=by exact O (nW ok jR vm).symm<|mem_map.mpr ⟨x,hx,rfl⟩
 rcases mem_append.mp hxn with hxn|hxn
 .exact .inl (ok.skind _ hxn)
 rcases ok.kinds x.1 (List.mem_of_mem_take hxn) with q|q
 .exact .inl q
 .exact .inr ⟨q,isSome_iff_exists.mpr<|nS q⟩
theorem CC.of(ok:HO f d fn names sn)(jR:mD J=fn.na)(vm:fn.na+vs.length=fn.np)(G:Gh F KK Z s.heap)(IJ:uG F KK Z s.heap J)(SA:iJ J KK Z s.heap args vs)(hL:VN.locals=s.heap.objs.size)(hK:∀x,VN.kindOf x=d.scope.names.lookup x)(hC:VN.cells=cellsFrom (s.heap.objs.size+1) d.scope.names [])
  (IC:InCallC s VN.locals (bindL VN.kindOf (uA J fn names sn vs) λaa=>none) VN.cells (bindC VN.kindOf (uA J fn names sn vs) λaa=>none) s₁):CC J fn d names sn VN F KK Z s s₁ args vs:=by
 have cx:∀x,VN.kindOf x=some .cell-> ∃c,VN.cells.lookup x=some c:=λx q=>by refine O hC ?_;rw[hK]at q;exact nS q
 have kinds:∀x∈names,VN.kindOf x=some .local\/VN.kindOf x=some .cell:=λx hx=>by rw[hK];exact ok.kinds x hx
 have skind:∀x∈bA fn sn,VN.kindOf x=some .local:=λx hx=>by rw[hK];exact ok.skind x hx
 have nb:((uA J fn names sn vs).map (·.1)).Nodup:=by exact O (nW (J:=J) ok jR vm)<|((List.perm_append_comm (l₁:=bA fn sn) (l₂:=names)).nodup_iff.mpr ok.nd).sublist<|Sublist.append (Sublist.refl _)<|List.take_sublist _ _
 refine⟨jR,ok.nd,kinds,skind,hK,λb o e=>by refine O hL ?_;exact ZZ e,IC.toInCall.keep,IC.toInCall.same,⟨_,IC.toInCall.ns⟩,λx c hc=>⟨IC.above _ _<|mem_of_lookup hc,_,IC.cell _ _ hc⟩,λx z c h1 h2=>name_of_addr IC.apart (mem_of_lookup h1)<|mem_of_lookup h2,cx,λk v hv=>?_,λx o dx hJ=>?_,G,IJ,SA⟩
 .have US:=(List.getElem?_eq_some_iff.mp hv).1;have NV:=(qj ok vm).symm▸US;have Q9:=Zd NV<|List.length_take_le' _ _;have mL:(names++bA fn sn)[k]?=some names[k]:=by exact O (ZM Q9) (ZK Q9)
  have hz:(uA J fn names sn vs)[(bA fn sn).length+k]?=some (names[k],v):=by
   refine List.getElem?_zip_eq_some.mpr ⟨?_,?_⟩
   .refine O (ZL<|Zl _ _) ?_;rw[Zm];exact O (ZK NV)<|O List.getElem_take rfl
   .refine O (qu jR) ?_;rw[ZL<|Zl _ _,Zm];exact hv
  rcases kinds names[k] (getElem_mem Q9) with q|q
  .exact⟨_,o6 mL q,_,IC.toInCall.ns,kf _ _ _ _ v nb hz q⟩
  .refine aB (cx _ q) λc hc=>?_;have:=IC.cell _ c hc;rw[nX _ _ _ _ v nb hz (by refine O q ?_;intro z;cases z)]at this;exact⟨_,vz mL q hc,this⟩
 .have e:bA fn sn=[sn]:=lE (λq=>by rw[hJ]at jR;exact Ca<|jR.trans q);refine⟨_,IC.toInCall.ns,kf _ _ 0 _ _ nb ?_<|skind sn (by refine O e ?_;exact .head _)⟩;unfold uA;refine O e<|O hJ ?_;rfl
theorem CC.fnok(C:CC J fn d names sn VN F KK Z s s₁ args vs)(en:aJ A (mH d fn names sn) VN (bP J fn VN names sn F))(hc:c.pin=fF fn.na fn.rb args)(hi:interactive VN=false):dA A (mH d fn names sn) VN (bP J fn VN names sn F) c ((List.range<|fn.na+(names++bA fn sn).length).filter λi=>decide<|i∉fF fn.na fn.rb args) KK:=by
 refine⟨en,λx i hx=>?_,λi hp wZ=>mem_filter.mpr ⟨mem_range.mpr wZ,Y0<|hc▸hp⟩,hi,C.kd,rfl,λj z hz=>?_,λq=>?_⟩
 .have Q:=fM hx;rcases C.kinds x (Zs Q.2) with q|q<;>(refine O q ?_;intro z;cases z)
 .by_cases hJ:J=none
  .refine .inl ?_;have h0:fn.na=0:=by have:=C.na;rw[hJ]at this;exact this.symm
   refine sF ?_;cases cy hz with
   |att q e=>have q:=h0▸q;cases q
   |loc _ hx=>have:=Zs hx;rw[show bA fn sn=[] from YX h0,ZO]at this;exact this
  .exact .inr λq=>hJ<|C.no.mp q
 .unfold bP;refine O (C.no.mp q) ?_;rfl
theorem CC.old(C:CC J fn d names sn VN F KK Z s s₁ args vs)(b:Addr)(e:s₁.heap.get? b=none):s.heap.get? b=none:=by cases z:s.heap.get? b with
 |none=>rfl
 |some o=>rw[C.kp b o z]at e;exact am e.symm
theorem GB{KK:VP}{b:Addr}(nw:¬y.wr KK b):KK b=none:=by cases q:KK b with
 |none=>rfl
 |some z=>exact absurd (.inl (by refine O q ?_;exact λz=>am z.symm)) nw
noncomputable def Qo:Flow->Value
 |.ret v=>v
 |_=>.none
theorem CC.ret{fl:Flow}(C:CC J fn d names sn VN F KK Z s s₁ args vs)(QW:fn.rb=sX f)(p:io (bP J fn VN names sn F) ((List.range m).filter λi=>decide<|i∉fF fn.na fn.rb args) s₁ KK Z s₁ (o,dU) fl s'):
  gi J (sX f) F KK Z s args vs (uS o) (hG fn.na args dU) (.ok<|.ret<|Qo fl) s':=by
 refine ak λG1 g1=>?_;obtain⟨k,ag,Z',q,I',S',r⟩:=p;obtain⟨k1,k2,k3,k4,k5,k6⟩:=C.back I' S';refine g1 ?_;refine⟨ag,Z',k1,k2,QW▸k3,k4,k5,k6,.inl ?_⟩;subst q;cases k with
 |next=>cases r;exact⟨_,_,rfl,rfl,.none⟩
 |ret rv=>obtain⟨v,rfl,r,dd,EO⟩:=r;refine⟨_,v,rfl,rfl,?_⟩;cases rv with
  |fz d=>exact r
  |KK d=>exact aB r λb r=>(⟨b,r.1,C.old b r.2.1,GB r.2.2.1,r.2.2.2.1,r.2.2.2.2.1,r.2.2.2.2.2⟩)
  |pl p=>exact am EO
theorem CC.exc{e:Value}(C:CC J fn d names sn VN F KK Z s s₁ args vs)(QW:fn.rb=sX f)(en:aJ A (mH d fn names sn) VN (bP J fn VN names sn F))(p:aV (bP J fn VN names sn F) ((List.range m).filter λi=>decide<|i∉fF fn.na fn.rb args) KK Z s₁ (o,dU) e s'):
  wpAny (model prog w) A (leaving VN e) (λaa dQ=>gi J (sX f) F KK Z s args vs (uS o) (hG fn.na args dU) (.error e) dQ) (λe' dQ=>gi J (sX f) F KK Z s args vs (uS o) (hG fn.na args dU) (.error e') dQ) s':=by
 refine ak λG1 g1=>?_;obtain⟨nm,a,ag,Z',q,rfl,I',S',Id⟩:=p;refine er en.top λe0 d8 Q=>?_;obtain⟨l,cC,z⟩:=jg I' en.stk;rw[Q.1]at cC;obtain rfl:=aE cC;subst q;refine g1 ?_;unfold leaving;refine YV<|nB Q.1 Q.2 z.1 en.frame Id (λb e=>⟨S'.old b e,I'.fresh e⟩) λbV lv mV=>?_;refine ak λG2 g2=>?_;obtain⟨k1,k2,k3,k4,k5,k6⟩:=C.back (s':= {s' with heap:=bV}) (I'.lv lv (λb p=>p.2) z.2)<|S'.lv I' lv (λb p=>p) z.2;exact g2 ⟨ag,Z',k1,k2,QW▸k3,k4,k5,k6,.inr ⟨_,a,rfl,rfl,mV.is.mono λb aa ai h=>⟨C.old b h.1,GB h.2.1,h.2.2.1,h.2.2.2⟩⟩⟩
end
theorem ux{P:Pr}(gd:Gd P.glob)(Vh:∀(f:Nat)(fn:Fn)(d:DefRec),P.fns[f]?=some fn->tb.fn[f]?=some d-> ∃names sn,HO f d fn names sn):
  ∀n,sj n (cF P n):=by
 intro n;induction n with
 |zero=>intro hd f args m9 aM h;exact am h
 |succ n IH=>
  intro hd f args m9 aM h d cQ J fa Rd A F KK Z s vs U2 VA fX Hg G IJ SA;refine ak λG1 g1=>?_;obtain⟨fn,dU,o,UX,eZ,U1,rfl,rfl⟩:=B1 h;refine er (Vh f fn d UX cQ) λnames sn ok=>?_;obtain⟨Va,ob,gn,pm,code,gS,ho,J3,rg⟩:=Rd;refine g1 ?_;have jR:=Jl ok Va;have vm:fn.na+vs.length=fn.np:=by exact O eZ.symm<|O SA.1<|O jR rfl
  refine codeAny_call_cells (fd:=methDef d.name gn d.params d.body d.scope pm code gS) (body:=d.body) (by show A.depth<1000;omega) (G.base fa ob ho) J3 (gd.nl.keeps G.base) (rg.keeps G.base) rfl (ok.bind J vs jR vm gn pm code gS) rfl (xO ok jR vm) (λs₁ IC=>?_) ok.co ok.gen ok.kind;have C:=CC.of (VN:=callEnvC (methDef d.name gn d.params d.body d.scope pm code gS) s.heap.objs.size fa) ok jR vm G IJ SA rfl (λaa=>rfl) rfl IC;have R':Rn (A.deeper<|callEnvC (methDef d.name gn d.params d.body d.scope pm code gS) s.heap.objs.size fa) ⟨P.glob,cF P n,fF fn.na fn.rb args,hd⟩ n:=⟨gd,IH,by show A.depth+1+2*n+1<=999;omega,by show A.units+3+8*n+4<=4000;omega,fX⟩
  have hi:interactive (callEnvC (methDef d.name gn d.params d.body d.scope pm code gS) s.heap.objs.size fa)=false:=by unfold interactive;show(d.scope.kind == .module&&_)=false;refine O ok.kind ?_;rfl
  exact YS (Iq (Z₀:=Z) (s₀:=s₁) ok.body _ _ _ _ R' (C.fnok (C.en Hg ok.kind rfl rfl rfl) rfl hi) KK Z s₁ _ (o,dU) U1 (C.inv<|fn.nv-fn.np) .refl) (λfl s' p=>C.ret ok.rb p) λe s' p=>C.exc ok.rb (C.en Hg ok.kind rfl rfl rfl) p
end Mv
end
section
set_option backward.match.sparseCases false
namespace Mv
open PySem PyProof.Rows
noncomputable def Nz(V:Sc)(x:Str) :Bool:=decide (V.names.lookup x=some .globalImplicit) && !(x == ("__debug__" :Str))
noncomputable def Nx(V:Sc)(x:Str)(i:Nat) :Bool:=decide (V.vars.lookup x=some i) && !(x == ("__debug__" :Str))
theorem EC(h:Nz V x=true):V.isG x:=by simp only[Nz,Z8,YZ,Z6]at h;exact h
theorem EB(h:Nx V x i=true):V.isV x i:=by simp only[Nx,Z8,YZ,Z6]at h;exact h
noncomputable def KJ:Const->D->Bool
 |.none,.none=>true
 |.bool a,.bool b=>a==b
 |.int a,.int b=>a==b
 |.str a,.str b=>decide (a=b)&&PyData.strOk a&&decide (a.cps.size<=Sz)
 |_,_=>false
theorem nQ{k:Const}{d:D}(h:KJ k d=true):cP k d:=by
 cases k<;>first|exact noConfusion h|(cases d<;>first|exact noConfusion h|exact .none|(refine O (eq_of_beq h) ?_;first|exact .bool _|exact .int _)|skip)
 exact O (YW (and_eq_true_iff.mp (and_eq_true_iff.mp h).1).1).symm<|.str _ (and_eq_true_iff.mp (and_eq_true_iff.mp h).1).2<|YW (and_eq_true_iff.mp h).2
noncomputable def B8(x:Ex)(bv:VS):Bool:=(SV x).all λi=>!bv.contains i
theorem xQ{x:Ex}{bv:VS}(h:B8 x bv=true):Apart x bv:=λi hi hb=>by simp only[B8,ZQ]at h;have:=h i hi;simp[hb]at this
noncomputable def BS(scope:Scope)(V:Sc)(vs:VT):Bool:=
 decide (scope.kind = .function)&&(scope.names.all λx=>decide<|x.2 = .local->scope.names.lookup x.1=some .local)&&(scope.names.all λx=>decide<|x.2≠ .cell)&&(vs.all λv=>decide<|scope.names.lookup v=some .local)&&decide vs.Nodup &&
 (scope.names.all fun x=>decide (x.2=.free→scope.names.lookup x.1=some .free∧(x.1 == ("__classdict__" :Str))=false∧(V.vars.lookup x.1).isSome=true∧(V.names.lookup x.1=some .cell∨V.names.lookup x.1=some .free))) &&
 decide (((scope.names.filter λx=>x.2 == .free).map (·.1)).Nodup)
theorem xI{vs:VT}(h:BS scope V vs=true):ip scope V vs:=by simp only[BS,Z8,YZ,ZQ]at h;refine ak λG g=>?_;obtain⟨⟨⟨⟨⟨⟨h1,h2⟩,h3⟩,h4⟩,Vd⟩,h5⟩,h6⟩:=h;refine g ?_;exact⟨h1,h2,h3,h4,Vd,λx hx hf=>let ⟨a,b,c,d⟩:=h5 x hx hf;⟨a,b,isSome_iff_exists.mp c,d⟩,h6⟩
structure Ck(p:Prop) where
 val:Bool
 ok:val=true->p
namespace Ck
variable {p q:Prop}
noncomputable def no:Ck p:=⟨false,λh=>nomatch h⟩
noncomputable def dec(p:Prop)[Decidable p]:Ck p:=⟨decide p,YW⟩
noncomputable def ofB{b:Bool}(h:b=true->p):Ck p:=⟨b,h⟩
theorem B9{a:Bool}(h:(a&&b)=true):a=true/\b=true:=by cases a<;>cases b<;>first|exact⟨rfl,rfl⟩|cases h
noncomputable def and(a:Ck p)(b:Ck q):Ck (p/\q):=⟨a.val&&b.val,λh=>⟨a.ok (B9 h).1,b.ok (B9 h).2⟩⟩
noncomputable def map(a:Ck p)(f:p->q):Ck q:=⟨a.val,λh=>f<|a.ok h⟩
noncomputable def or(a b:Ck p):Ck p:=⟨a.val||b.val,λh=>(or_eq_true_iff.mp h).elim a.ok b.ok⟩
end Ck
noncomputable def vw(p:Expr->Prop)(e:Expr)(nm:∀v a,Ck (p<|.Name v a):=λaa ai=>.no)(con:∀v a b,Ck (p<|.Constant v a b):=λaa ai br=>.no)(att:∀o a b,Ck (p<|.Attribute o a b):=λaa ai br=>.no)(cal:∀g as pos,Ck (p<|.Call g as [] pos):=λaa ai br=>.no)(tup:∀es a b,Ck (p<|.Tuple es a b):=λaa ai br=>.no)(lis:∀es a,Ck (p<|.List es a):=λaa ai=>.no)(bin:∀l o r a,Ck (p<|.BinOp l o r a):=λaa ai br eH=>.no)(un:∀o l a,Ck (p<|.UnaryOp o l a):=λaa ai br=>.no)(cmp:∀l os es a,Ck (p<|.Compare l os es a):=λaa ai br eH=>.no)(boo:∀o l a,Ck (p<|.BoolOp o l a):=λaa ai br=>.no)(sub:∀l i a,Ck (p<|.Subscript l i a):=λaa ai br=>.no)(dic:∀l i a,Ck (p<|.Dict l i a):=λaa ai br=>.no)(ife:∀c l r a,Ck (p<|.IfExp c l r a):=λaa ai br eH=>.no):Ck (p e):=match e with
 |.Name v a=>nm v a
 |.Constant v a b=>con v a b
 |.Attribute o a b=>att o a b
 |.Call g as [] pos=>cal g as pos
 |.Tuple es a b=>tup es a b
 |.List es a=>lis es a
 |.BinOp l o r a=>bin l o r a
 |.UnaryOp o l a=>un o l a
 |.Compare l os es a=>cmp l os es a
 |.BoolOp o l a=>boo o l a
 |.Subscript l i a=>sub l i a
 |.Dict l i a=>dic l i a
 |.IfExp c l r a=>ife c l r a
 |_=>.no
section
variable (p:Expr->Prop)(e:Expr)
noncomputable def bI(k:∀v a,Ck<|p<|.Name v a):Ck (p e):=vw p e (nm:=k)
noncomputable def iy(k:∀v a b,Ck<|p<|.Constant v a b):Ck (p e):=vw p e (con:=k)
noncomputable def b8(k:∀o a b,Ck<|p<|.Attribute o a b):Ck (p e):=vw p e (att:=k)
noncomputable def jx(k:∀g as pos,Ck<|p<|.Call g as [] pos):Ck (p e):=vw p e (cal:=k)
noncomputable def tB(k:∀es a b,Ck<|p<|.Tuple es a b):Ck (p e):=vw p e (tup:=k)
noncomputable def ML(k:∀es a,Ck<|p<|.List es a):Ck (p e):=vw p e (lis:=k)
noncomputable def Jo(k:∀l o r a,Ck<|p<|.BinOp l o r a):Ck (p e):=vw p e (bin:=k)
noncomputable def qK(k:∀o l a,Ck<|p<|.UnaryOp o l a):Ck (p e):=vw p e (un:=k)
noncomputable def lQ(k:∀l os es a,Ck<|p<|.Compare l os es a):Ck (p e):=vw p e (cmp:=k)
noncomputable def D4(k:∀o l a,Ck<|p<|.BoolOp o l a):Ck (p e):=vw p e (boo:=k)
noncomputable def dT(k:∀l i a,Ck<|p<|.Subscript l i a):Ck (p e):=vw p e (sub:=k)
noncomputable def zG(k:∀l i a,Ck<|p<|.Dict l i a):Ck (p e):=vw p e (dic:=k)
noncomputable def Jn(k:∀c l r a,Ck<|p<|.IfExp c l r a):Ck (p e):=vw p e (ife:=k)
end
noncomputable def n0{α:Type}(p:List α->Prop)(l:List α)(k:Ck (p [])):Ck (p l):=match l with|[]=>k|_=>.no
noncomputable def n1{α:Type}(p:List α->Prop)(l:List α)(k:∀a,Ck<|p [a]):Ck (p l):=match l with|[a]=>k a|_=>.no
noncomputable def n2{α:Type}(p:List α->Prop)(l:List α)(k:∀a b,Ck<|p [a,b]):Ck (p l):=match l with|[a,b]=>k a b|_=>.no
noncomputable def vs(q:Stmt->Prop)(s:Stmt)(asg:∀t v a,Ck (q<|.Assign [t] v a):=λaa ai br=>.no)(exp:∀v a,Ck (q<|.Expr v a):=λaa ai=>.no)(iff:∀c l r a,Ck (q<|.If c l r a):=λaa ai br eH=>.no)(ret:∀v a,Ck (q<|.Return (some v) a):=λaa ai=>.no)(fo:∀g i l a,Ck (q<|.For g i l [] a):=λaa ai br eH=>.no)(wh:∀c l a,Ck (q<|.While c l [] a):=λaa ai br=>.no)(rai:∀v a,Ck (q<|.Raise (some v) none a):=λaa ai=>.no)(tr:∀l hs a,Ck (q<|.Try l hs [] [] a):=λaa ai br=>.no):Ck (q s):=match s with
 |.Assign [t] v a=>asg t v a
 |.Expr v a=>exp v a
 |.If c l r a=>iff c l r a
 |.Return (some v) a=>ret v a
 |.For g i l [] a=>fo g i l a
 |.While c l [] a=>wh c l a
 |.Raise (some v) none a=>rai v a
 |.Try l hs [] [] a=>tr l hs a
 |_=>.no
section
variable (q:Stmt->Prop)(s:Stmt)
noncomputable def wE(k:∀t v a,Ck<|q<|.Assign [t] v a):Ck (q s):=vs q s (asg:=k)
noncomputable def MN(k:∀v a,Ck<|q<|.Expr v a):Ck (q s):=vs q s (exp:=k)
noncomputable def Uv(k:∀c l r a,Ck<|q<|.If c l r a):Ck (q s):=vs q s (iff:=k)
noncomputable def Jm(k:∀v a,Ck<|q<|.Return (some v) a):Ck (q s):=vs q s (ret:=k)
noncomputable def Qz(k:∀g i l a,Ck<|q<|.For g i l [] a):Ck (q s):=vs q s (fo:=k)
noncomputable def Qw(k:∀c l a,Ck<|q<|.While c l [] a):Ck (q s):=vs q s (wh:=k)
noncomputable def Qy(k:∀v a,Ck<|q<|.Raise (some v) none a):Ck (q s):=vs q s (rai:=k)
noncomputable def Qx(k:∀l hs a,Ck<|q<|.Try l hs [] [] a):Ck (q s):=vs q s (tr:=k)
end
section
variable {V:Sc}{x:Ex}(e:Expr)
noncomputable def NG(k:∀v p a b,Ck<|CE V (.Attribute (.Name v p) a b) x):Ck (CE V e x):=b8 (λe=>CE V e x) e λo a b=>bI (λo=>CE V (.Attribute o a b) x) o λv p=>k v p a b
noncomputable def qY(k:∀v p as pos,Ck<|CE V (.Call (.Name v p) as [] pos) x):Ck (CE V e x):=jx (λe=>CE V e x) e λg as pos=>bI (λg=>CE V (.Call g as [] pos) x) g λv p=>k v p as pos
noncomputable def AH(k:∀o m ap as pos,Ck<|CE V (.Call (.Attribute o m ap) as [] pos) x):Ck (CE V e x):=jx (λe=>CE V e x) e λg as pos=>b8 (λg=>CE V (.Call g as [] pos) x) g λo m ap=>k o m ap as pos
end
noncomputable def yh(V:Sc)(x:Str)(i:Nat):Ck (V.isV x i):=.ofB EB
noncomputable def vG(V:Sc)(x:Str):Ck (V.isG x):=.ofB EC
noncomputable def L9(x:Ex)(bv:VS):Ck (Apart x bv):=.ofB xQ
noncomputable def Vq(x:Ex)(aw:List Ex)(l:VS):Ck (∀j∈l,j∉aY x/\j∉bu aw):=.dec _
structure Vv(g:Expr)(t:Tgt) where
 vs:VT
 i:Nat
 ck:Ck (CG i g vs t)
noncomputable def uv(g:Expr)(t:Tgt):Vv g t:=match t with
 |.one i=>(match g with
  |.Name v _=>⟨[v],i,⟨true,λaa=>.one⟩⟩
  |_=>⟨[],0,.no⟩)
 |.tup [i,j]=>(match g with
  |.Tuple [.Name a _,.Name b _] _ _=>⟨[a,b],i,(Ck.dec<|j=i+1).map λh=>h▸ .two⟩
  |_=>⟨[],0,.no⟩)
 |_=>⟨[],0,.no⟩
section
variable {V:Sc}
theorem Np{a b:Expr}{op:Operator}{o:Cr}{x y:Ex}(h:op=zg o/\CE V a x/\CE V b y/\Apart x (aY y)):CE V (.BinOp a op b pos) (.op2 o x y):=by refine O h.1 ?_;exact .op2 h.2.1 h.2.2.1 h.2.2.2
theorem Nt{a b:Expr}{op:CmpOp}{o:Cm}{x y:Ex}(h:op=fk o/\CE V a x/\CE V b y/\Apart x (aY y)):CE V (.Compare a [op] [b] pos) (.cmp o x y):=by refine O h.1 ?_;exact .cmp h.2.1 h.2.2.1 h.2.2.2
theorem JH{a b:Expr}{op ME:CmpOp}{o p:Cm}{x y:Ex}(h:(op=fk o/\ME=fk p)/\CE V a x/\CE V b y/\CE V e z):CE V (.Compare a [op,ME] [b,e] pos) (.cmp2 o p x y z):=by obtain⟨⟨rfl,rfl⟩,a,b,c⟩:=h;exact .cmp2 a b c
theorem QK{j:Bool}{o:BoolOp}(h:o=B4 j/\pU V es M):CE V (.BoolOp o es pos) (.bo j M):=by refine O h.1 ?_;exact .bo h.2
noncomputable def Ob(f:Nat)(v:Str):Bool:=match tb.fn[f]? with
 |some d=>decide<|d.name=v
 |none=>false
theorem lh{v:Str}(h:Ob f v=true):∃d,tb.fn[f]?=some d/\d.name=v:=by unfold Ob at h;cases q:tb.fn[f]? with
 |none=>have h:=q▸h;cases h
 |some d=>rw[q]at h;exact⟨d,rfl,YW h⟩
theorem cV{v:Str}{p:Pos}{args:VV}(h:(∃d,tb.fn[f]?=some d/\d.name=v)/\V.isG v/\pU V args M/\args.length<=29/\f<tb.m0):CE V (.Call (.Name v p) args [] pos) (.call f M):=by obtain⟨⟨d,hd,rfl⟩,a,b,c,e⟩:=h;exact .call ⟨hd,e⟩ a b c
theorem Nu{b:Bi}{v:Str}{p:Pos}{a:Expr}{x:Ex}(h:b.one=true/\v=dF b/\V.isG v/\CE V a x):CE V (.Call (.Name v p) [a] [] pos) (.bi b [x]):=by obtain rfl:=h.2.1;exact .bi1 h.1 h.2.2.1 h.2.2.2
theorem Nr{t:Ty}{v u:Str}{p p' pos:Pos}{a:Expr}{x:Ex}(h:v=("isinstance" :Str)∧u=(cI t:Str)∧V.isG v∧V.isG u∧CE V a x) :CE V (.Call (.Name v p) [a,.Name u p'] [] pos) (.bi (.isi t) [x]):=by obtain rfl:=h.1;obtain rfl:=h.2.1;exact .isi h.2.2.1 h.2.2.2.1 h.2.2.2.2
theorem Ew{m:Str}{fC pos:Pos}{a k:Expr}(h:m=("count" :Str)∧il a=true∧il k=true∧(fC.endLine == pos.line)=true) :BX V (.Call (.Attribute a m fC) [k] [] pos) .count [a,k]:=by refine O h.1 ?_;exact .count h.2.1 h.2.2.1 h.2.2.2
theorem JF{v u:Str}{p p' pos gp:Pos}{a b:Expr}(h:(v=("dict" :Str)∧u=("zip" :Str))∧V.isG v∧V.isG u) :BX V (.Call (.Name v p) [.Call (.Name u p') [a,b] [] gp] [] pos) .dzip [a,b]:=by obtain⟨⟨rfl,rfl⟩,a,b⟩:=h;exact .dzip a b
noncomputable def rR(V:Sc)(x a:Str)(i:Nat) :Ck (V.isA x a i):=(Ck.dec (x=V.sn∧V.ats.lookup a=some i∧(x == ("__debug__" :Str))=false)).map fun h=>⟨h.1,h.2.1,h.2.2⟩
noncomputable def OC(V:Sc)(o:Expr)(i:Nat):Ck (PE V o i):=.or (bI (λo=>PE V o i) o λx aa=>(yh V x i).map .nm)<|b8 (λo=>PE V o i) o λo a b=>bI (λo=>PE V (.Attribute o a b) i) o λx aa=>(rR V x a i).map .atr
noncomputable def OD:(kL:List (Option Expr))->(ks:VT)->Ck (KS kL ks)
 |[],[]=>⟨true,λaa=>.nil⟩
 |some e::es,k'::ks=>iy (λe=>KS (some e::es) (k'::ks)) e λc a b=>(match c with
  |.str k=>((Ck.dec<|k=k').and<|OD es ks).map λh=>h.1▸ .cons h.2
  |_=>.no)
 |_,_=>.no
theorem Eu{f:Nat}{v x:Str}{as:VS}{p ap pos:Pos}{args:VV}{M:List Ex}(h:(∃d,tb.fn[f]?=some d∧d.name=v)∧(as=V.as∧tb.m0 < f∧tb.rb[f-tb.m0]?=some []∧x=V.sn∧(x == ("__debug__" :Str))=false∧V.ats.isEmpty=false∧(ap.endLine == pos.line)=true∧args.length≤28)∧pU V args M) :CE V (.Call (.Attribute (.Name x p) v ap) args [] pos) (.mcall f as M):=by obtain⟨⟨d,hd,rfl⟩,⟨rfl,h1,h2,h3,h4,h5,h6,h7⟩,h8⟩:=h;exact .mcall ⟨hd,h1,h2⟩ ⟨h3,h4,λq=>by rw[q]at h5;exact noConfusion h5⟩ h6 h8 h7
theorem Nl{v:Str}{p pos:Pos}{a b:Expr}{x z:Ex}(h:v=("zip" :Str)∧V.isG v∧CE V a x∧CE V b z∧Apart x (aY z)) :IT V (.Call (.Name v p) [a,b] [] pos) .zip [x,z]:=by obtain rfl:=h.1;exact .zip h.2.1 h.2.2.1 h.2.2.2.1 h.2.2.2.2
theorem JE{v:Str}{p pos:Pos}{e:Expr}{x:Ex}(h:v=("enumerate" :Str)∧V.isG v∧CE V e x) :IT V (.Call (.Name v p) [e] [] pos) .enum [x]:=by obtain rfl:=h.1;exact .enum h.2.1 h.2.2
theorem Ey{v:Str}{p:Pos}(h:(∃d,tb.fn[f]?=some d/\d.name=v)/\V.isG v/\V.isV x i/\f<tb.m0):CE V (.Call (.Name v p) [.Name x p'] [] pos) (.callp f i):=by obtain⟨⟨d,hd,rfl⟩,a,b,c⟩:=h;exact .callp ⟨hd,c⟩ a b
theorem No{op:CmpOp}{s a:Str}{p:Pos}(h:op = .NotIn/\V.isV x j/\V.isA s a i):CE V (.Compare (.Name x px) [op] [.Attribute (.Name s p) a ap] pos) (.tin i<|.var j):=by obtain rfl:=h.1;exact .tin h.2.1 h.2.2
theorem Ev{m a x:Str}{i j:Nat}{k:Const}{kk:Nat}{d:D}{pa px pk ps ap pos:Pos}(h:(m=("index" :Str)∧(ap.endLine == pos.line)=true)∧V.isV a i∧V.isV x j∧cP k d) :CE V (.Call (.Attribute (.Name a pa) m ap) [.Subscript (.Name x px) (.Constant k kk pk) ps] [] pos) (.bi .index [.var i,.idx (.var j) (.lit d)]):=by obtain⟨⟨rfl,e⟩,a,b,c⟩:=h;exact .index a b c e
theorem Es{v:Str}{p pos:Pos}{e:Expr}{x:Ex}(h:v=("range" :Str)∧V.isG v∧CE V e x) :IT V (.Call (.Name v p) [e] [] pos) .range [x]:=by obtain rfl:=h.1;exact .range h.2.1 h.2.2
end
theorem Nm{o:UnaryOp}{a:Expr}{x:Ex} :(o = .USub/\CE V a x->CE V (.UnaryOp o a pos) (.neg x))/\(o = .Not/\CE V a x->CE V (.UnaryOp o a pos) (.not x)):=⟨λh=>O h.1<|.neg h.2,λh=>O h.1<|.not h.2⟩
theorem JG{ks:VT}{dh:VV}(h:KS kL ks/\pU V dh M/\(∀k∈ks,PyData.strOk k=true/\k.cps.size<=Sz)/\ks.Nodup/\ks.length=M.length/\(ks≠ []/\ks.length<=15)/\M.all Ex.noPl=true):CE V (.Dict kL dh pos) (.bi (.disp ks) M):=
 .disp h.1 h.2.1 ⟨h.2.2.2.1,h.2.2.1⟩ h.2.2.2.2.1 h.2.2.2.2.2.1 h.2.2.2.2.2.2
section
variable (f:(V:Sc)->(x:Ex)->(e:Expr)->Ck (CE V e x))
noncomputable def ij(V:Sc):(M:List Ex)->(es:VV)->Ck (pU V es M)
 |[],[]=>⟨true,λaa=>.nil⟩
 |x::M,e::es=>((f V x e).and<|(ij V M es).and<|L9 x<|bu M).map λh=>.cons h.1 h.2.1 h.2.2
 |_,_=>.no
noncomputable def OE(V:Sc)(x:Ex)(o:Option Expr):Ck (Sn V o x):=match o with
 |some e=>(f V x e).map .osome
 |none=>(match x with
  |.lit .none=>⟨true,λaa=>.onone⟩
  |_=>.no)
noncomputable def OF(V:Sc)(it:gM)(bG:List Ex)(e:Expr):Ck (IT V e it bG):=match it with
 |.seq=>n1 (λbG=>IT V e .seq bG) bG λx=>(f V x e).map .seq
 | .range=>jx (fun e=>IT V e .range bG) e fun g as pos=>bI (fun g=>IT V (.Call g as [] pos) .range bG) g fun v p=>n1 (fun as=>IT V (.Call (.Name v p) as [] pos) .range bG) as fun e=>n1 (fun bG=>IT V (.Call (.Name v p) [e] [] pos) .range bG) bG fun x=>((Ck.dec (v=("range" :Str))).and ((vG V v).and (f V x e))).map Es
 | .enum=>jx (fun e=>IT V e .enum bG) e fun g as pos=>bI (fun g=>IT V (.Call g as [] pos) .enum bG) g fun v p=>n1 (fun as=>IT V (.Call (.Name v p) as [] pos) .enum bG) as fun e=>n1 (fun bG=>IT V (.Call (.Name v p) [e] [] pos) .enum bG) bG fun x=>((Ck.dec (v=("enumerate" :Str))).and ((vG V v).and (f V x e))).map JE
 | .zip=>jx (fun e=>IT V e .zip bG) e fun g as pos=>bI (fun g=>IT V (.Call g as [] pos) .zip bG) g fun v p=>n2 (fun as=>IT V (.Call (.Name v p) as [] pos) .zip bG) as fun a b=>n2 (fun bG=>IT V (.Call (.Name v p) [a,b] [] pos) .zip bG) bG fun x z=>((Ck.dec (v=("zip" :Str))).and ((vG V v).and ((f V x a).and ((f V z b).and (L9 x (aY z)))))).map Nl
noncomputable def Mr(V:Sc)(x:Ex)(e:Expr):Ck (CE V e x):=match x with
 |.lit d=>iy (λe=>CE V e _) e λk aa ai=>.ofB λh=>.lit<|nQ (k:=k) (d:=d) h
 |.var i=>.or (bI (λe=>CE V e _) e λv aa=>(yh V v i).map .var)<|NG e λx aa a ai=>(rR V x a i).map .avar
 |.pl (.var i)=>.or (bI (λe=>CE V e _) e λv aa=>(yh V v i).map .pl)<|NG e λx aa a ai=>(rR V x a i).map .apl
 |.callp g i=>qY e λv p as pos=>n1 (λas=>CE V (.Call (.Name v p) as [] pos) _) as λa=>bI (λa=>CE V (.Call (.Name v p) [a] [] pos) _) a λx aa=>((Ck.ofB lh).and<|(vG V v).and<|(yh V x i).and<|.dec<|g<tb.m0).map Ey
 |.tin i (.var j)=>lQ (λe=>CE V e _) e λl os es pos=>bI (λl=>CE V (.Compare l os es pos) _) l λx px=>n1 (λos=>CE V (.Compare (.Name x px) os es pos) _) os λop=>n1 (λes=>CE V (.Compare (.Name x px) [op] es pos) _) es λo=>b8 (λo=>CE V (.Compare (.Name x px) [op] [o] pos) _) o λo a ap=>bI (λo=>CE V (.Compare (.Name x px) [op] [.Attribute o a ap] pos) _) o λs aa=>((Ck.dec<|op = .NotIn).and<|(yh V x j).and<|rR V s a i).map No
 |.tget i (.var j)=>dT (λe=>CE V e _) e λl k pos=>b8 (λl=>CE V (.Subscript l k pos) _) l λo a ap=>bI (λo=>CE V (.Subscript (.Attribute o a ap) k pos) _) o λs p=>bI (λk=>CE V (.Subscript (.Attribute (.Name s p) a ap) k pos) _) k λx aa=>((yh V x j).and<|rR V s a i).map λh=>.tget h.1 h.2
 |.tin _ _=>.no
 |.tget _ _=>.no
 | .mcall g as M=>AH e fun o v ap es pos=>bI (fun o=>CE V (.Call (.Attribute o v ap) es [] pos) _) o fun x aa=>((Ck.ofB lh).and ((Ck.dec (as=V.as∧tb.m0 < g∧tb.rb[g-tb.m0]?=some []∧x=V.sn∧(x == ("__debug__" :Str))=false∧V.ats.isEmpty=false∧(ap.endLine == pos.line)=true∧es.length≤28)).and (ij f V M es))).map Eu
 |.gl k=>bI (λe=>CE V e _) e λv aa=>((vG V v).and<|.dec<|tb.gl[k]?=some v).map λh=>.gl h.1 h.2
 |.tup M=>tB (λe=>CE V e _) e λes aa ai=>((ij f V M es).and<|.dec<|M.length<=1000).map λh=>.tup h.1 h.2
 |.list M=>ML (λe=>CE V e _) e λes aa=>((ij f V M es).and<|.dec<|M.length<=1000).map λh=>.list h.1 h.2
 |.op2 o a b=>Jo (λe=>CE V e _) e λea op eb aa=>((Ck.dec<|op=zg o).and<|(f V a ea).and<|(f V b eb).and<|L9 a<|aY b).map Np
 |.neg a=>qK (λe=>CE V e _) e λo ea aa=>((Ck.dec<|o = .USub).and<|f V a ea).map Nm.1
 |.not a=>qK (λe=>CE V e _) e λo ea aa=>((Ck.dec<|o = .Not).and<|f V a ea).map Nm.2
 |.cmp o a b=>lQ (λe=>CE V e _) e λea os es pos=>n1 (λos=>CE V (.Compare ea os es pos) _) os λop=>n1 (λes=>CE V (.Compare ea [op] es pos) _) es λeb=>((Ck.dec<|op=fk o).and<|(f V a ea).and<|(f V b eb).and<|L9 a<|aY b).map Nt
 |.cmp2 o p a b u=>lQ (λe=>CE V e _) e λea os es pos=>n2 (λos=>CE V (.Compare ea os es pos) _) os λop ME=>n2 (λes=>CE V (.Compare ea [op,ME] es pos) _) es λeb eu=>((Ck.dec<|op=fk o/\ME=fk p).and<|(f V a ea).and<|(f V b eb).and<|f V u eu).map JH
 |.bo j M=>D4 (λe=>CE V e _) e λo es aa=>((Ck.dec<|o=B4 j).and<|ij f V M es).map QK
 |.idx a i=>dT (λe=>CE V e _) e λea ei aa=>((f V a ea).and<|(f V i ei).and<|L9 a<|aY i).map λh=>.idx h.1 h.2.1 h.2.2
 |.slc a l h=>dT (λe=>CE V e _) e λea sl aa=>(match sl with
  |.Slice lo hi none _=>((f V a ea).and<|(OE f V l lo).and<|(OE f V h hi).and<|L9 a<|aY l++aY h).map λh=>.slc h.1 h.2.1 h.2.2.1 h.2.2.2
  |_=>.no)
 |.call g M=>qY e λv aa es ai=>((Ck.ofB lh).and<|(vG V v).and<|(ij f V M es).and<|.dec<|es.length<=29/\g<tb.m0).map cV
 |.bi (.disp ks) M=>zG (λe=>CE V e _) e λkL dh aa=>((OD kL ks).and<|(ij f V M dh).and<|(Ck.dec (∀k∈ks,PyData.strOk k=true/\k.cps.size<=Sz)).and<|.dec<|ks.Nodup/\ks.length=M.length/\(ks≠ []/\ks.length<=15)/\M.all Ex.noPl=true).map JG
 | .bi .index [.var i,.idx (.var j) (.lit d)]=>AH e fun o m ap as pos=>bI (fun o=>CE V (.Call (.Attribute o m ap) as [] pos) _) o fun a pa=>n1 (fun as=>CE V (.Call (.Attribute (.Name a pa) m ap) as [] pos) _) as fun u=>dT (fun u=>CE V (.Call (.Attribute (.Name a pa) m ap) [u] [] pos) _) u fun l k ps=>bI (fun l=>CE V (.Call (.Attribute (.Name a pa) m ap) [.Subscript l k ps] [] pos) _) l fun x px=>iy (fun k=>CE V (.Call (.Attribute (.Name a pa) m ap) [.Subscript (.Name x px) k ps] [] pos) _) k fun k aa ai=>((Ck.dec (m=("index" :Str)∧(ap.endLine == pos.line)=true)).and ((yh V a i).and ((yh V x j).and (.ofB fun h=>nQ (k:=k) (d:=d) h)))).map Ev
 | .bi (.isi t) [a]=>qY e fun v p as pos=>n2 (fun as=>CE V (.Call (.Name v p) as [] pos) _) as fun ea eu=>bI (fun eu=>CE V (.Call (.Name v p) [ea,eu] [] pos) _) eu fun u aa=>((Ck.dec (v=("isinstance" :Str))).and ((Ck.dec (u=(cI t:Str))).and ((vG V v).and ((vG V u).and (f V a ea))))).map Nr
 |.bi b [a]=>qY e λv p as pos=>n1 (λas=>CE V (.Call (.Name v p) as [] pos) _) as λea=>((Ck.dec<|b.one=true).and<|(Ck.dec<|v=dF b).and<|(vG V v).and<|f V a ea).map Nu
 | .bi .count M=>AH e fun a m ap as pos=>n1 (fun as=>CE V (.Call (.Attribute a m ap) as [] pos) _) as fun k=>((Ck.dec (m=("count" :Str)∧il a=true∧il k=true∧(ap.endLine == pos.line)=true)).and (ij f V M [a,k])).map fun h=>.bx (Ew h.1) h.2
 | .bi .dzip M=>qY e fun v p as pos=>n1 (fun as=>CE V (.Call (.Name v p) as [] pos) _) as fun c=>jx (fun c=>CE V (.Call (.Name v p) [c] [] pos) _) c fun u bs gp=>bI (fun u=>CE V (.Call (.Name v p) [.Call u bs [] gp] [] pos) _) u fun u p'=>n2 (fun bs=>CE V (.Call (.Name v p) [.Call (.Name u p') bs [] gp] [] pos) _) bs fun a b=>(((Ck.dec (v=("dict" :Str)∧u=("zip" :Str))).and ((vG V v).and (vG V u))).and (ij f V M [a,b])).map fun h=>.bx (JF h.1) h.2
 |.bi .dict0 []=>zG (λe=>CE V e _) e λks vs dp=>n0 (λks=>CE V (.Dict ks vs dp) _) ks<|n0 (λvs=>CE V (.Dict [] vs dp) _) vs ⟨true,λaa=>.bx .dict0 .nil⟩
 |.bi _ _=>.no
 |.comp cX t it bG aw=>(match e with
  |.ListComp ee [⟨g,cM,ed,0⟩] scope _=>((uv g t).ck.and<|(Ck.dec<|it.pairs=true->t.isTup=true).and<|(OF f V it bG cM).and<|(Ck.ofB<|xI (scope:=scope) (V:=V) (vs:=(uv g t).vs)).and<|(Ck.dec<|V.hi<=(uv g t).i).and<|(f (bM scope V (uv g t).vs (uv g t).i) cX ee).and<|(ij f (bM scope V (uv g t).vs (uv g t).i) aw ed).and<|Vq cX aw<|aQ t).map λ⟨h0,hz,h1,h2,h3,h4,h5,h6⟩=>.comp h0 hz h1 h2 h3 h4 h5 h6
  |_=>.no)
end
noncomputable def ik(n:Nat):(V:Sc)->(x:Ex)->(e:Expr)->Ck (CE V e x):=Nat.rec (λaa ai br=>.no) (λaa f=>Mr f) n
noncomputable def KP(V:Sc):(es:VV)->(is:VS)->Ck (TGs V es is)
 |[],[]=>⟨true,λaa=>.nil⟩
 |e::es,i::is=>bI (λe=>TGs V (e::es) (i::is)) e λx aa=>((yh V x i).and<|KP V es is).map λh=>.cons h.1 h.2
 |_,_=>.no
noncomputable def Vp(V:Sc)(g:Expr)(t:Tgt):Ck (TG V g t):=match t with
 |.one i=>bI (λg=>TG V g<|.one i) g λx aa=>(yh V x i).map .one
 |.tup is=>tB (λg=>TG V g<|.tup is) g λes aa ai=>(KP V es is).map .tup
theorem Et{k k' MY:Str}{np gT:Pos}(h:(k'=k/\k'∈tb.cl)/\V.isG k'):CS V (.Raise (some<|.Call (.Name k' np) [.Constant (.str MY) kk ap] [] gT) none pos) (.raise k):=by obtain⟨⟨rfl,a⟩,b⟩:=h;exact .raise b a
theorem Nv{V:Sc}{m:Str}{o:Expr}{fC pos p':Pos}{v:Expr}{i:Nat}{e:Ex}(h:(m=("append" :Str)∧(fC.endLine == pos.line)=true)∧PE V o i∧CE V v e) :CS V (.Expr (.Call (.Attribute o m fC) [v] [] pos) p') (.app (.var i) e):=by obtain⟨⟨rfl,a⟩,b,c⟩:=h;exact .app b c a
theorem QJ{cn L8:Str}{p rp hp:Pos}{x:Ex}{M:List (Str×Ex)}(h:(L8=cn/\cn∈tb.hc)/\V.isG cn/\CE V e x/\HS V hs M):HS V (.ExceptHandler (some<|.Name cn p) none [.Return (some e) rp] hp::hs) ((L8,x)::M):=by obtain⟨⟨rfl,a⟩,b,c,d⟩:=h;exact .cons b a c d
noncomputable def TM(V:Sc)(ch:(x:Ex)->(e:Expr)->Ck (CE V e x)):(M:List (Str×Ex))->(hs:List ExceptHandler)->Ck (HS V hs M)
 |[],[]=>⟨true,λaa=>.nil⟩
 |(L8,x)::M,.ExceptHandler (some c) none [s] hp::hs=>bI (λc=>HS V (.ExceptHandler (some c) none [s] hp::hs) ((L8,x)::M)) c λcn p=>Jm (λs=>HS V (.ExceptHandler (some<|.Name cn p) none [s] hp::hs) ((L8,x)::M)) s λe aa=>((Ck.dec<|L8=cn/\cn∈tb.hc).and<|(vG V cn).and<|(ch x e).and<|TM V ch M hs).map QJ
 |_,_=>.no
theorem Nn{xb:List St}{M:List (Str×Ex)}(h:yj V body xb/\HS V hs M/\hs.isEmpty=false):CS V (.Try body hs [] [] pos) (.tryx xb M):=.tryx h.1 h.2.1 λq=>by have:=h.2.2;rw[q]at this;exact noConfusion this
noncomputable def Oz(v:Str):Bool:=match tb.cr with
 |some c=>decide<|c.name=v
 |none=>false
theorem FO{v:Str}(h:Oz v=true):∃c,tb.cr=some c/\c.name=v:=by unfold Oz at h;cases q:tb.cr with
 |none=>have h:=q▸h;cases h
 |some d=>rw[q]at h;exact⟨d,rfl,YW h⟩
theorem Nq{V:Sc}{f:Nat}{as:VS}{v x:Str}{p np gT pos:Pos}{args:VV}{M:List Ex}{rest:List Stmt}{body:List St}(h:((∃c,tb.cr=some c∧c.name=v)∧ ∃d,tb.fn[tb.m0]?=some d∧d.name=("__init__" :Str))∧(f=tb.m0∧as=b6 V∧V.ats.isEmpty=true∧V.names.lookup x=some .local∧V.vars.lookup x=none∧(x == ("__debug__" :Str))=false∧args.isEmpty=false)∧V.isG v∧pU V args M∧yj (gJ V x) rest body) :
  yj V (.Assign [.Name x p] (.Call (.Name v np) args [] gT) pos::rest) [.new f as M body]:=by
 obtain⟨⟨⟨c,h1,rfl⟩,h2⟩,⟨rfl,rfl,h3,h4,h5,h6,h7⟩,h8,h9,Ve⟩:=h;exact .new h1 h8 ⟨List.isEmpty_iff.mp h3,h4,h5,h6⟩ h9 ⟨λq=>by rw[q]at h7;exact noConfusion h7,h2⟩ Ve
section
variable (g:(V:Sc)->(zs:List St)->(ss:List Stmt)->Ck (yj V ss zs))
noncomputable def Mq(V:Sc)(z:St)(s:Stmt):Ck (CS V s z):=match z with
 |.asg (.one i) e=>wE (λs=>CS V s _) s λt aH pos=>.or (bI (λt=>CS V (.Assign [t] aH pos) _) t λx aa=>((yh V x i).and<|ik 60 V e aH).map λh=>.asg h.1 h.2)<|b8 (λt=>CS V (.Assign [t] aH pos) _) t λo a ap=>bI (λo=>CS V (.Assign [.Attribute o a ap] aH pos) _) o λx aa=>((rR V x a i).and<|(ik 60 V e aH).and<|.dec<|dR aH=true).map λh=>.asgA h.1 h.2.1 h.2.2
 |.asg (.tup is) e=>wE (λs=>CS V s _) s λt aH pos=>tB (λt=>CS V (.Assign [t] aH pos) _) t λes aa ai=>((KP V es is).and<|(ik 60 V e aH).and<|.dec<|dR aH=true/\qH aH=true).map λh=>.asgT h.1 h.2.1 h.2.2.1 h.2.2.2
 |.no=>⟨true,λaa=>.no⟩
 |.setI (.var i) k e=>wE (λs=>CS V s _) s λt aH pos=>dT (λt=>CS V (.Assign [t] aH pos) _) t λo idx aa=>((OC V o i).and<|(ik 60 V e aH).and<|ik 60 V k idx).map λh=>.setI h.1 h.2.1 h.2.2
 | .app (.var i) e=>MN (fun s=>CS V s _) s fun c gp=>jx (fun c=>CS V (.Expr c gp) _) c fun a as pos=>b8 (fun a=>CS V (.Expr (.Call a as [] pos) gp) _) a fun o m fC=>n1 (fun as=>CS V (.Expr (.Call (.Attribute o m fC) as [] pos) gp) _) as fun v=>((Ck.dec (m=("append" :Str)∧(fC.endLine == pos.line)=true)).and ((OC V o i).and (ik 60 V e v))).map Nv
 |.tab0 i=>wE (λs=>CS V s _) s λt aH pos=>b8 (λt=>CS V (.Assign [t] aH pos) _) t λo a ap=>bI (λo=>CS V (.Assign [.Attribute o a ap] aH pos) _) o λx p=>zG (λv=>CS V (.Assign [.Attribute (.Name x p) a ap] v pos) _) aH λks vs dp=>n0 (λks=>CS V (.Assign [.Attribute (.Name x p) a ap] (.Dict ks vs dp) pos) _) ks<|n0 (λvs=>CS V (.Assign [.Attribute (.Name x p) a ap] (.Dict [] vs dp) pos) _) vs<|(rR V x a i).map .tab0
 |.tset i (.var j) e=>wE (λs=>CS V s _) s λt aH pos=>dT (λt=>CS V (.Assign [t] aH pos) _) t λo k p'=>b8 (λo=>CS V (.Assign [.Subscript o k p'] aH pos) _) o λo a ap=>bI (λo=>CS V (.Assign [.Subscript (.Attribute o a ap) k p'] aH pos) _) o λx p=>bI (λk=>CS V (.Assign [.Subscript (.Attribute (.Name x p) a ap) k p'] aH pos) _) k λz aa=>((rR V x a i).and<|(yh V z j).and<|ik 60 V e aH).map λh=>.tset h.1 h.2.1 h.2.2
 |.tset _ _ _=>.no
 |.exp e=>MN (λs=>CS V s _) s λv aa=>((ik 60 V e v).and<|.dec<|dR v=true).map λh=>.exp h.1 h.2
 |.new _ _ _ _=>.no
 |.iff t a b=>.or (Uv (λs=>CS V s _) s λet sa sb aa=>((ik 60 V t et).and<|(g V a sa).and<|g V b sb).map λh=>.iff h.1 h.2.1 h.2.2) (match a,b with
  |[.ret x],[.ret y]=>Jm (λs=>CS V s _) s λv pos=>Jn (λv=>CS V (.Return (some v) pos) _) v λet ea eb aa=>((ik 60 V t et).and<|(ik 60 V x ea).and<|ik 60 V y eb).map λh=>.retI h.1 h.2.1 h.2.2
  |_,_=>.no)
 |.ret e=>Jm (λs=>CS V s _) s λv aa=>(ik 60 V e v).map .ret
 |.for_ t it bG body ct=>Qz (λs=>CS V s _) s λu cM sb aa=>((Vp V u t).and<|(Ck.dec<|it.pairs=true->t.isTup=true).and<|(OF (ik 60) V it bG cM).and<|g V body sb).map λh=>.for1 h.1 h.2.1 h.2.2.1 h.2.2.2
 |.whl t body ct=>Qw (λs=>CS V s _) s λet sb aa=>((ik 60 V t et).and<|g V body sb).map λh=>.whl h.1 h.2
 |.raise k=>Qy (λs=>CS V s _) s λc pos=>jx (λc=>CS V (.Raise (some c) none pos) _) c λu as cp=>bI (λu=>CS V (.Raise (some<|.Call u as [] cp) none pos) _) u λk' np=>n1 (λas=>CS V (.Raise (some<|.Call (.Name k' np) as [] cp) none pos) _) as λa=>iy (λa=>CS V (.Raise (some<|.Call (.Name k' np) [a] [] cp) none pos) _) a λm kk ap=>(match m with
  |.str _=>((Ck.dec<|k'=k/\k'∈tb.cl).and<|vG V k').map Et
  |_=>.no)
 |.tryx xb M=>Qx (λs=>CS V s _) s λbody hs aa=>((g V xb body).and<|(TM V (ik 60 V) M hs).and<|.dec<|hs.isEmpty=false).map Nn
noncomputable def H9:(V:Sc)->(zs:List St)->(ss:List Stmt)->Ck (yj V ss zs)
 |_,[],[]=>⟨true,λaa=>.nil⟩
 | V,[.new f as M body],s :: rest=>wE (fun s=>yj V (s :: rest) _) s fun t u pos=>bI (fun t=>yj V (.Assign [t] u pos :: rest) _) t fun x p=>jx (fun u=>yj V (.Assign [.Name x p] u pos :: rest) _) u fun u args cp=>bI (fun u=>yj V (.Assign [.Name x p] (.Call u args [] cp) pos :: rest) _) u fun v aa=>(((Ck.ofB FO).and (Ck.ofB lh)).and ((Ck.dec (f=tb.m0∧as=b6 V∧V.ats.isEmpty=true∧V.names.lookup x=some .local∧V.vars.lookup x=none∧(x == ("__debug__" :Str))=false∧args.isEmpty=false)).and ((vG V v).and ((ij (ik 60) V M args).and (g (gJ V x) body rest))))).map Nq
 |V,z::zs,s::ss=>((Mq g V z s).and<|g V zs ss).map λh=>.cons h.1 h.2
 |_,_,_=>.no
end
noncomputable def Hu(n:Nat):(V:Sc)->(zs:List St)->(ss:List Stmt)->Ck (yj V ss zs):=Nat.rec (λaa ai br=>.no) (λaa f=>H9 f) n
noncomputable abbrev Ir:Str:="self"
noncomputable def Hw(fn:Fn)(ns:VT):VT:=bA fn Ir++ns.take (fn.np-fn.na)
noncomputable def bL:List DefRec->List Fn->List VT->List ((Nat->Value)->Str->Value->Value->Value->Sem (List<|Str×Value))
 |d::X,fn::fns,ns::nss=>(λg gn pm code gS=>bindArgs (methDef d.name gn d.params d.body d.scope pm code gS) ⟨(List.range (Hw fn ns).length).map g,[]⟩)::bL X fns nss
 |_,_,_=>[]
noncomputable def bR:List DefRec->List Fn->List VT->List ((Nat->Value)->Str->Value->Value->Value->Sem (List<|Str×Value))
 |_::X,fn::fns,ns::nss=>(λg aa ai br eH=>pure<|(Hw fn ns).zip<|(List.range (Hw fn ns).length).map g)::bR X fns nss
 |_,_,_=>[]
theorem map_range(vs:VU):(List.range vs.length).map (λi=>(vs[i]?).getD .none)=vs:=by induction vs with
 |nil=>rfl
 |cons v vs ih=>exact O List.range_succ_eq_map<|O Zz<|O map_map<|Y2 (v :: ·) ih
end Mv
end
section
namespace Mv
open PySem PySem.W PyProof.Rows
noncomputable def Ke(f:Nat)(d:DefRec)(fn:Fn)(names:VT):Bool:=
 decide ((names++bA fn Ir).Nodup/\fn.np<=fn.na+names.length/\fn.na<=fn.np/\(fn.na=if f<tb.m0 then 0 else tb.an.length)/\fn.rb=sX f/\(∀x∈names,d.scope.names.lookup x=some .local\/d.scope.names.lookup x=some .cell)/\ ∀x∈bA fn Ir,d.scope.names.lookup x=some .local)&&(Hu 300 (mH d fn names Ir) fn.body d.body).val &&
 decide (d.scope.isCoroutine=false/\d.scope.isGenerator=false/\d.scope.kind = .function/\ ∀x∈d.scope.names,x.2≠ .free)
theorem EZ{fn:Fn}{names:VT}(h:Ke f d fn names=true)(hb:∀g gn pm code gS,bindArgs (methDef d.name gn d.params d.body d.scope pm code gS) ⟨(List.range (Hw fn names).length).map g,[]⟩=pure ((Hw fn names).zip<|(List.range (Hw fn names).length).map g)):HO f d fn names Ir:=by
 refine ak λG g1=>?_;obtain⟨h,h3⟩:=and_eq_true_iff.mp h;refine ak λG1 g2=>?_;obtain⟨h1,h2⟩:=and_eq_true_iff.mp h;have Q:=YW h1;have Z:=YW h3;refine g2 ?_;refine g1 ?_;refine⟨Q.1,Q.2.1,Q.2.2.1,Q.2.2.2.1,Q.2.2.2.2.1,Q.2.2.2.2.2.1,Q.2.2.2.2.2.2,λJ vs hJ hv gn pm code gS=>?_,(Hu 300 _ _ _).ok h2,Z.1,Z.2.1,Z.2.2.1,Z.2.2.2⟩;have e:(kq J++vs).length=(Hw fn names).length:=by
  unfold Hw bA;refine O ZI<|O ZI<|O length_take ?_;rcases J with _|j
  .refine O (YX (show fn.na=0 from hJ.symm)) ?_;show 0+vs.length=0+_;exact(Zk (Ln [vs.length,min (fn.np-fn.na) names.length,fn.4,fn.1,fn.np-fn.na] (.w (.a (.c 0) .x)<|.a (.c 0) .y) [Ge (.a .z .x) .u,Gf .y<|.v 4,Gf (.a (.v 4) .z) .u] rfl hv (min_eq_left (a:=fn.np-fn.na) (b:=names.length)<|Ln [fn.np-fn.na,names.length,fn.1,fn.4] (.w .x .y) [Gl .z<|.a .u .y,Ge (.a .x .u) .z] rfl Q.2.1<|Za (n:=fn.np) (m:=fn.na) Q.2.2.1)<|Za (n:=fn.np) (m:=fn.na) Q.2.2.1)<|Ln [min (fn.np-fn.na) names.length,vs.length,fn.4,fn.1,fn.np-fn.na] (.w (.a (.c 0) .x)<|.a (.c 0) .y) [Gf (.a .z .y) .u,Ge .x<|.v 4,Ge (.a (.v 4) .z) .u] rfl hv (min_eq_left (a:=fn.np-fn.na) (b:=names.length)<|Ln [fn.np-fn.na,names.length,fn.1,fn.4] (.w .x .y) [Gl .z<|.a .u .y,Ge (.a .x .u) .z] rfl Q.2.1<|Za (n:=fn.np) (m:=fn.na) Q.2.2.1)<|Za (n:=fn.np) (m:=fn.na) Q.2.2.1)
  .refine O (YY (show ¬fn.na=0 from λq=>absurd (show 4=0 from hJ.trans q) (by decide))) ?_;show 1+vs.length=1+_;exact(Zk (Ln [vs.length,min (fn.np-fn.na) names.length,fn.4,fn.1,fn.np-fn.na] (.w (.a (.c 1) .x)<|.a (.c 1) .y) [Ge (.a .z .x) .u,Gf .y<|.v 4,Gf (.a (.v 4) .z) .u] rfl hv (min_eq_left (a:=fn.np-fn.na) (b:=names.length)<|Ln [fn.np-fn.na,names.length,fn.1,fn.4] (.w .x .y) [Gl .z<|.a .u .y,Ge (.a .x .u) .z] rfl Q.2.1<|Za (n:=fn.np) (m:=fn.na) Q.2.2.1)<|Za (n:=fn.np) (m:=fn.na) Q.2.2.1)<|Ln [min (fn.np-fn.na) names.length,vs.length,fn.4,fn.1,fn.np-fn.na] (.w (.a (.c 1) .x)<|.a (.c 1) .y) [Gf (.a .z .y) .u,Ge .x<|.v 4,Ge (.a (.v 4) .z) .u] rfl hv (min_eq_left (a:=fn.np-fn.na) (b:=names.length)<|Ln [fn.np-fn.na,names.length,fn.1,fn.4] (.w .x .y) [Gl .z<|.a .u .y,Ge (.a .x .u) .z] rfl Q.2.1<|Za (n:=fn.np) (m:=fn.na) Q.2.2.1)<|Za (n:=fn.np) (m:=fn.na) Q.2.2.1)
 have q:=hb (λi=>((kq J++vs)[i]?).getD .none) gn pm code gS;rw[<- e,map_range]at q;exact q
noncomputable def A0:Nat->List DefRec->List Fn->List VT->Bool
 |f,d::X,fn::fns,ns::nss=>Ke f d fn ns&&A0 (f+1) X fns nss
 |_,_,[],_=>true
 |_,_,_,_=>false
theorem E3:∀{k:Nat}{X:List DefRec}{fns:List Fn}{nss:List VT},A0 k X fns nss=true->bL X fns nss=bR X fns nss-> ∀(f:Nat)(fn:Fn)(d:DefRec),fns[f]?=some fn->X[f]?=some d-> ∃names,HO (k+f) d fn names Ir:=by intro k X fns;induction fns generalizing X k with
 |nil=>intro nss _ _ f fn d h1;exact am h1
 |cons fn fns ih=>intro nss h e f Vi d h1 h2;cases X with
  |nil=>exact am h2
  |cons d' X=>cases nss with
   |nil=>exact noConfusion h
   |cons ns nss=>have h:=and_eq_true_iff.mp (show(Ke k d' fn ns&&A0 (k+1) X fns nss)=true from h);cases f with
    |zero=>exact O (aE h1).symm<|O (aE h2).symm<|⟨ns,EZ h.1 λg gn pm code gS=>congrFun (congrFun (congrFun (congrFun (congrFun (List.cons.inj e).1 g) gn) pm) code) gS⟩
    |succ f=>have q:=ih h.2 (List.cons.inj e).2 f Vi d h1 h2;rw[Nat.add_right_comm]at q;exact q
noncomputable def vv(p:Program)(loose:VT):Bool:=
 jM.all λx=>!startupNames.contains x && !loose.contains x && !((recsOf p).map (·.name)).contains x && !((litsOf p).map (·.1)).contains x && !((clssOf p loose).map (·.name)).contains x
theorem oN{name:Str}(h:(fastLookup "object" name).isSome=true) :∃y,typeLookup (.type "object") name=pure y:=by rw [typeLookup_type]; refine O builtinLookup_eq_fast ?_;cases q:fastLookup "object" name with
 |none=>have h:=q▸h;cases h
 |some r=>exact⟨r,rfl⟩
noncomputable def RE(loose:VT):Bool:=
 (tb.cr.elim false fun c=>tb.an.all fun a=>c.statics.contains a) && (tb.an.all fun a=>match fastLookup "object" a with | some none=>true | _=>false) &&
 ((tb.fn.drop 44).all fun d=>(fastLookup "object" d.name).isSome && !tb.an.contains d.name) && decide ((recsOf Hq.view).length=44)
variable [hp:Hp]
section
variable {loose:VT}{qM:ExcName->Option Value}
theorem Gd.of_top{glob:VX}(T:Top Hq.view loose qM mg mb B)(TE:TopE Hq.view loose mg B)(hm:(plainsOf Hq.view loose).find? (fun c=>c.name == ("Making" :Str))=tb.cr)(L3:RE loose=true)(hf:vv Hq.view loose=true)
  (J6:∀k∈Lq.cls, ∃C Bb newId hY bm,OwnClsQ k C bm newId mg B/\ExcBaseFacts Bb newId hY bm)
  (J7:∀c∈Lq.hcs, ∃Cl,mg c=some Cl/\ ∀k∈Lq.hcs, ∀C,mg k=some (.ref C)->sq B C Cl (decide<|k=c))
  (EN:∀(k:Nat)(x:Str)(d:D),Lq.gls[k]?=some x->glob[k]?=some d-> ∃v,mg x=some v/\ ∀(h':Heap)(Z:VQ),(∀a o,B.get? a=some o->h'.get? a=some o)->(∀a o,B.get? a=some o->Z a)->bE h' Z v d):Gd glob where
 g:=T.g
 b:=T.b
 nl:=T.nolimit
 bt:=T.builtins
 fn:=λf d PN hd=>by have hd:(recsOf Hq.view++_)[f]?=some d:=hd;rw[ZM (by refine O (YW (and_eq_true_iff.mp L3).2) ?_;exact PN)]at hd;exact T.fn d<|Zs hd
 pl:=λc hc=>by
  refine ak λG1 g2=>?_;have z:=and_eq_true_iff.mp (and_eq_true_iff.mp L3).1;refine ak λG2 g3=>?_;obtain⟨h1,h2⟩:=and_eq_true_iff.mp z.1;refine kF (TE c<|List.mem_of_find?_eq_some<|hm.trans hc) λC N mN Q=>?_;have hC:=Q.1;have P:=Q.2;refine g3 ?_;refine g2 ?_;refine⟨C,N,mN,hC,P.ofCmp,λa ha=>⟨?_,am_miss_of_fast<|all_eq_true.mp h2 a ha⟩,λf d PN hd=>?_⟩
  .rw[hc]at h1;exact P.ofCmp.quiet a<|Zw _<|contains_iff_mem.mp<|all_eq_true.mp (show(tb.an.all λa=>c.statics.contains a)=true from h1) a ha
  .have hk:d∈tb.fn.drop 44:=by
    exact Zs (i:=f-44)<|O (List.getElem?_drop)<|O (Zn (show 44<=f from PN)) hd
   obtain⟨q1,q2⟩:=and_eq_true_iff.mp<|all_eq_true.mp z.2 d hk;refine⟨?_,λq=>?_,oN q1⟩
   .have hd:(recsOf Hq.view++(tb.cr.elim [] (·.meths)).map (λm=>(⟨m.name,m.params,m.body,m.scope,default⟩:DefRec)))[f]?=some d:=hd;rw[ZL (by refine O (YW (and_eq_true_iff.mp L3).2) ?_;exact PN),hc]at hd;refine aB (mem_map.mp<|Zs hd) λm u=>?_;refine O u.2.symm ?_;exact u.1
   .rw[contains_iff_mem.mpr q]at q2;exact noConfusion q2
 gl:=EN
 bi:=λx hx=>by simp only[vv,ZQ,Z8,Z6,List.contains_eq_mem,decide_eq_false_iff_not]at hf;refine ak λG g1=>?_;obtain⟨⟨⟨⟨h1,h2⟩,h3⟩,h4⟩,h5⟩:=hf x hx;exact g1<|T.free x h1 h2 h3 h4 h5
 cl:=J6
 ask:=J7
theorem const_int{i:Int}(T:Top Hq.view loose qM mg mb B)(hv:valOf Hq.view x=some (.int i)):∃v,mg x=some v/\ ∀(h':Heap)(Z:VQ),(∀a o,B.get? a=some o->h'.get? a=some o)->(∀a o,B.get? a=some o->Z a)->bE h' Z v (.int i):=by refine aB (T.const x _ hv) λv q=>?_;refine⟨v,q.1,λh' Z aa ai=>?_⟩;cases q.2 B with
 |int i t=>exact .int i t
theorem wK{lv:List (Str×WData)}{i:Int}(Cl:LooseAre lv mg B)(hm:(x,WData.int i)∈lv):∃v,mg x=some v/\ ∀(h':Heap)(Z:VQ),(∀a o,B.get? a=some o->h'.get? a=some o)->(∀a o,B.get? a=some o->Z a)->bE h' Z v (.int i):=by obtain⟨v,hg,hr⟩:=Cl.val _ hm;refine⟨v,hg,λh' Z aa ai=>?_⟩;cases hr with
 |int i t=>exact .int i t
end
theorem qW{P:Params} :∀{vs:VU}{M:List Int},WellAll P h vs (ofPys<|M.map .int)->aq h Z vs (M.map .int):=by intro vs M;induction M generalizing vs with
 |nil=>exact @λW=>by cases W;exact .nil
 |cons x M ih=>intro W;cases W with
  |cons a b=>cases a with
   |int _ t=>exact .cons (.int _ t)<|ih b
theorem En{loose:VT}{qM M7:ExcName->Option Value}{s₁:Shared}{P:Pr}{nss:List VT}{l:Addr}{M:List Int}{c:ClaimW}{cl:Str->Option Addr}{args:List WData}
  (hh:B=s₁.heap) (T:Top Hq.view loose qM mg mb B) (TE:TopE Hq.view loose mg B) (hm:(plainsOf Hq.view loose).find? (fun c=>c.name == ("Making" :Str))=tb.cr) (L3:RE loose=true) (ER:A0 0 tb.fn P.fns nss=true) (U4:bL tb.fn P.fns nss=bR tb.fn P.fns nss) (nH:vv Hq.view loose=true)
  (J6:∀k∈Lq.cls, ∃C Bb newId hY bm,OwnClsQ k C bm newId mg B/\ExcBaseFacts Bb newId hY bm)
  (J7:∀c∈Lq.hcs, ∃Cl,mg c=some Cl/\ ∀k∈Lq.hcs, ∀C,mg k=some (.ref C)->sq B C Cl (decide<|k=c))
  (EN:∀(k:Nat)(x:Str)(d:D),Lq.gls[k]?=some x->P.glob[k]?=some d-> ∃v,mg x=some v/\ ∀(h':Heap)(Z:VQ),(∀a o,B.get? a=some o->h'.get? a=some o)->(∀a o,B.get? a=some o->Z a)->bE h' Z v d)
  (JZ:f<44) (hd:(recsOf Hq.view)[f]?=some d) (Rd:mg d.name=some (.ref fa)) (W:Well w.params s₁.heap (.ref l) (ofPy<|.list<|M.map .int)) (eZ:M.length<=Sz) (hn:n<=340) (Rc:s₁.gens = #[])
  (hr:∀cls,c.raises args cls=false) (hp:c.post args (.bool true) args=true)
  (h:cF P n false f [.fz<|.list<|M.map .int]=some (.ok<|.fz<|.bool true,aM)):
  codeAny (model prog w) callerA (.call (.ref fa) ⟨[.ref l],[]⟩) (GoodWG c cl M7 args s₁) s₁:=by
 have hb:∀a o,B.get? a=some o->s₁.heap.get? a=some o:=λa o e=>hh▸e;have U3:claimMargin=300:=by decide
 have gd:=Gd.of_top T TE hm L3 nH J6 J7 EN;have cQ:tb.fn[f]?=some d:=by exact O (ZM (by refine O (YW (and_eq_true_iff.mp L3).2) ?_;exact JZ)) hd
 refine ak λG2 g1=>?_;obtain⟨a,o,pm,code,gS,jC,ho,J3,rg⟩:=gd.fn f d JZ cQ;have jC:=Rd▸jC;cases jC;refine g1 ?_;refine codeAny_mono ((ux gd (λf fn d h1 h2=>let ⟨ns,q⟩:=E3 ER U4 f fn d h1 h2;⟨ns,Ir,Y8 f▸q⟩) n) false f _ _ _ h d cQ none fa (⟨⟨λaa=>JZ,λaa=>rfl⟩,o,d.name,pm,code,gS,ho,J3,rg⟩) callerA (λaa=>False) (λaa=>none) (λa=> ∃o,s₁.heap.get? a=some o) s₁ [.ref l] ?_ ?_ (λaa=>rfl) ⟨[],rfl,λaa h=>by exact(Zp h).elim⟩ ⟨hb,λa o e=>⟨o,hb a o e⟩,λaa ai=>rfl,λaa ai f=>f,λaa ai f=>f,λaa z=>z,λaa z=>absurd rfl z,λaa f=>f.elim⟩ (λaa ai br q=>am q) ⟨rfl,λaa ai br eH q=>am q,λk sl v e1 e2=>?_⟩) λr s' p=>?_
 .exact(Ln [claimMargin,n] (.w (.a (.a (.c 1) .x)<|.m 2 .y)<|.c 999) [(2,.w .y<|.c 340),Ge .x<|.c 300] rfl hn U3)
 .exact(Ln [n] (.w (.a (.c 4)<|.m 8 .x)<|.c 4000) [(8,.w .x<|.c 340)] rfl hn)
 .cases k with
  |zero=>refine O (aE e1).symm ?_;refine O (aE e2).symm ?_;refine⟨(λq=>by exact Slot.noConfusion q),?_⟩;refine ak λG1 g=>?_;cases W with
   |@list _ vs ws tR ER=>exact g<|.list ⟨_,tR⟩ tR (by refine O ((qW (Z:=λaa=>True) ER).length) ?_;rw[ZG];exact eZ)<|qW ER
  |succ k=>exact am e2
 .obtain⟨ag,Z',G,_,S,_,_,_,⟨rv,v,q,rfl,R⟩|⟨nm,a,q,_⟩⟩:=p;rotate_left
  .exact Kr q
  obtain rfl:=jk q;refine er S.sh λh' tk Q=>?_;subst Q;refine GoodW.toG ⟨.inl ⟨v,.bool true,[],rfl,hr,?_,hp,λaa=>⟨nodup_nil,λa ha=>by exact(Zp ha).elim⟩⟩,λa o e=>G.base a o<|hh▸e,rfl,Rc⟩;cases R;exact .bool true
end Mv
end
section
set_option backward.match.sparseCases false
namespace Mv
open PySem PySem.W PyProof.Rows
noncomputable def O6(K:Frag)(Cl:Value)(b:Bool)(g:Option Value):Bool:=match g with
 |some (.ref D)=>exmOne K (.ref D) Cl==some b
 |_=>false
theorem Ga{K:Frag}{B:Heap}{Cl:Value}{D:Addr}(Id:K.In B)(h:O6 K Cl b (some<|.ref D)=true):sq B D Cl b:=by
 intro prog w A E s a o hB ha hc Q q;have I:InstAt s.heap a o D none:=⟨ha,hc.1,by obtain⟨_,_,vs,hd⟩:=hc;obtain⟨c,o⟩:=o;cases hd;rfl,by refine O hc.2.1 ?_;trivial⟩
 exact exm_one (Id.keeps hB) I.type (beq_iff_eq.mp h) A Q E s (λaa ai e=>e) q
noncomputable def o5(K:Frag)(x:Str):Option Value:=match K.lookup mainGlobals with
 |some ⟨_,_,.dict es _,_⟩=>nsFind es x
 |_=>none
theorem EW{K:Frag}{mg:Str->Option Value}(Id:K.In h)(g:h.Ns mainGlobals mg)(hk:(K.lookup mainGlobals).elim false (λo=>match o.data with|.dict _ _=>true|_=>false)=true)(x:Str):mg x=o5 K x:=by refine ak λG g1=>?_;obtain⟨o,Kq,Ks,ho,hd,_,hf⟩:=g;cases q:K.lookup mainGlobals with
 |none=>rw[q]at hk;exact noConfusion hk
 |some o'=>have:=Id _ _ q;rw[this]at ho;obtain rfl:=aE ho;obtain⟨c,d,dt,sl⟩:=o';cases hd;refine g1 ?_;unfold o5;exact O q<|(hf x).symm
noncomputable def Oh(K:Frag)(hcs:VT):Bool:=hcs.all λc=>(o5 K c).elim false λCl=>hcs.all λk=>O6 K Cl (decide<|k=c)<|o5 K k
theorem Fi{K:Frag}{B:Heap}{mg:Str->Option Value}{hcs:VT}(Id:K.In B)(hg:∀x,mg x=o5 K x)(h:Oh K hcs=true):∀c∈hcs, ∃Cl,mg c=some Cl/\ ∀k∈hcs, ∀C,mg k=some (.ref C)->sq B C Cl (decide<|k=c):=λc hc=>by have h:=all_eq_true.mp h c hc;cases q:o5 K c with
 |none=>rw[q]at h;exact noConfusion h
 |some Cl=>rw[q]at h;refine⟨Cl,(hg c).trans q,λk hk C e=>Ga Id ?_⟩;have:=all_eq_true.mp h k hk;rw[<- hg,e]at this;exact this
theorem td{p:Program}{loose:VT}{qM:ExcName->Option Value}{mg mb:Str->Option Value}(T:Top p loose qM mg mb h){cls:VT}{Bb SZ UA:String}{bm:VU}(FB:ExcBaseFacts Bb SZ UA bm)
  (hc:(cls.all λk=>(ownsOf p).any λo=>decide (o.name=k)&&decide (o.newId=SZ)&&(o.bm==bm))=true):∀k∈cls, ∃C Bb newId hY bm,OwnClsQ k C bm newId mg h/\ExcBaseFacts Bb newId hY bm:=λk hk=>by
 rw[ZQ]at hc;refine ak λG g=>?_;obtain⟨o,ho,hq⟩:=any_eq_true.mp<|hc k hk;simp only[Z8,YZ,beq_iff_eq]at hq;obtain⟨⟨rfl,rfl⟩,rfl⟩:=hq;refine aB (T.own o ho) λC q=>?_;exact g<|⟨C,_,_,_,_,q.1,FB⟩
end Mv
end
variable {d e m i n:Nat}{b:Bool}{α:Type}{l kn ns:VT}{ac:List Mv.D}{a4:Mv.Slot}{sd:List (Mv.D×Mv.D)}
section
set_option backward.match.sparseCases false
open PySem PySem.W PyProof.Rows Mv
set_option maxHeartbeats 8000000
namespace Lq
theorem chk:A0 0 tb.fn P.fns nss=true:=by decide +kernel
theorem chkBd:bL tb.fn P.fns nss=bR tb.fn P.fns nss:=by kernel_rfl
theorem chkF:vv Hq.view (looseW Hq.view Hq.loose)=true:=by decide +kernel
theorem chkM:(plainsOf Hq.view (looseW Hq.view Hq.loose)).find? (fun c=>c.name == ("Making" :Str))=tb.cr:=by kernel_rfl
theorem chkR:RE (looseW Hq.view Hq.loose)=true:=by decide +kernel
theorem chkC:(cls.all fun k=>(ownsOf Hq.view).any fun o=>decide (o.name=k) && decide (o.newId = "ValueError.__new__") && (o.bm == [.type "ValueError",.type "Exception",.type "BaseException",.type "object"]))=true:=by decide +kernel
theorem chkA(P:Params):Oh (Hq.K P) hcs=true:=by kernel_rfl
theorem kG(P:Params):((Hq.K P).lookup mainGlobals).elim false (λo=>match o.data with|.dict _ _=>true|_=>false)=true:=by kernel_rfl
end Lq
end
section
set_option backward.match.sparseCases false
namespace Lq
open PySem Mv
noncomputable def ek(i:Int):Bool:=decide (-1000000000000000000<i)&&decide (i<1000000000000000000)
mutual
noncomputable def dep:D->Nat
 |.tuple X=>cZ X+1
 |_=>0
noncomputable def cZ:VX->Nat
 |[]=>0
 |d::X=>max (dep d)<|cZ X
end
mutual
noncomputable def wt:D->Nat
 |.tuple X=>1+dZ X
 |_=>1
noncomputable def dZ:VX->Nat
 |[]=>0
 |d::X=>wt d+dZ X
end
mutual
noncomputable def eo:D->Bool
 |.tuple X=>cR X
 |.int i=>ek i
 |_=>false
noncomputable def cR:VX->Bool
 |[]=>true
 |d::X=>eo d&&cR X
end
inductive kU{α:Sort _}(A B:α->Prop):Prop
 |mk (x:α):A x->B x->kU A B
inductive xX{α:Sort _}(A B C:α->Prop):Prop
 |mk (x:α):A x->B x->C x->xX A B C
inductive Pv{α:Sort _}(A B C E:α->Prop):Prop
 |mk (x:α):A x->B x->C x->E x->Pv A B C E
inductive LA{α β:Sort _}(A B C:α->β->Prop):Prop
 |mk (x:α) (y:β):A x y->B x y->C x y->LA A B C
theorem sG(d:D):1<=wt d:=by cases d<;>first|exact Zh 1|exact Zl _ _
noncomputable def lH(d:D)(r:Int):Int:=if eo d=true/\(wt d:Int)<=r then r-wt d else -1
theorem iu{d:D}{r:Int}(h:eo d=true/\(wt d:Int)<=r):lH d r=r-wt d:=YX h
theorem bZ{d:D}{r:Int}(h:¬(eo d=true/\(wt d:Int)<=r)):lH d r = -1:=YY h
theorem wm(n:Nat)(t:D)(r0:Int)(ih:∀(d:D)(r:Int),dep d<n->cF P n false 0 [.fz d,.fz<|.int r]=some (.ok<|.fz<|.int<|lH d r,[])):∀(X:VX)(left:Int)(s4:Slot),cZ X<n->0<=left->
  ((cR X=true/\(dZ X:Int)<=left)->cm ⟨P.glob,cF P n,[],false⟩ [.fz t,.fz<|.int r0,.no,.fz<|.int left,s4] (.one 4) R6 [4] X=some (.ok .next,[.fz t,.fz<|.int r0,.no,.fz<|.int<|left-dZ X,.no]))/\
  (¬(cR X=true/\(dZ X:Int)<=left)-> ∃Y,cm ⟨P.glob,cF P n,[],false⟩ [.fz t,.fz<|.int r0,.no,.fz<|.int left,s4] (.one 4) R6 [4] X=some (.ok<|.ret<|.fz<|.int<|-1,Y)):=by
 intro X;induction X with
 |nil=>intro left s4 _ hl;refine⟨λaa=>?_,λh=>absurd ⟨rfl,hl⟩ h⟩;rw[bb];refine O (Int.sub_zero left) ?_;rfl
 |cons d X IH=>
  intro left s4 h hl;have h1:dep d<n:=by exact(Ln [dep d,n,max (dep d)<|cZ X] (.w (.p 1 .x) .y) [Gl (.p 1 .z) .y,Gl .x .z] rfl h<|le_max_left (dep d)<|cZ X)
  have h2:cZ X<n:=by exact(Ln [cZ X,n,max (dep d)<|cZ X] (.w (.p 1 .x) .y) [Gl (.p 1 .z) .y,Gl .x .z] rfl h<|le_max_right (dep d)<|cZ X)
  have e:=ih d left h1;have eg:cR (d::X)=(eo d&&cR X):=rfl;refine O eg<|O (rfl:dZ (d::X)=wt d+dZ X) ?_;by_cases hg:eo d=true/\(wt d:Int)<=left
  .rw[iu hg]at e;have lt:¬(left-(wt d:Int)<0):=by exact(λMT=>(lT [wt d] [left] [Gi (.n .x) .x,Gi (.p 1<|.s .x<|.n .x)<|.c 0] rfl hg.2 MT))
   refine⟨λz=>?_,λz=>?_⟩
   .have z1:=z.1;rw[hg.1,Bool.true_and]at z1;have q:=(IH (left-wt d) (.fz d) h2<|dJ [wt d] [left] 1 (.i (.c 0)<|.s .x<|.n .x) [Gi (.n .x) .x] rfl hg.2).1 ⟨z1,by have:=z.2;push_cast at this;exact(dJ [dZ X,wt d] [left] 1 (.i (.n .x)<|.s .x<|.n .y) [Gi (.n<|.a .y .x) .x] rfl z.2)⟩;have:left - ↑(wt d) - ↑(dZ X)=left - ↑(wt d+dZ X):=by push_cast;exact(ZX (dJ [wt d,dZ X] [left] 1 (.i (.s (.s .x<|.n .x)<|.n .y)<|.s .x<|.a (.n .x)<|.n .y) [] rfl)<|dJ [wt d,dZ X] [left] 1 (.i (.s .x<|.a (.n .x)<|.n .y)<|.s (.s .x<|.n .x)<|.n .y) [] rfl)
    rw[this]at q;exact eM [.c 0 e,.b 0<|jd lt,.lp 1 q] rfl
   .obtain⟨Y,q⟩:=(IH (left-wt d) (.fz d) h2<|dJ [wt d] [left] 1 (.i (.c 0)<|.s .x<|.n .x) [Gi (.n .x) .x] rfl hg.2).2 λz'=>z ⟨by refine O hg.1<|O z'.1 ?_;rfl,by have:=z'.2;push_cast;exact(dJ [wt d,dZ X] [left] 1 (.i (.a (.n .x)<|.n .y) .x) [Gi (.n .y)<|.s .x<|.n .x] rfl z'.2)⟩;exact⟨Y,by exact eM [.c 0 e,.b 0<|jd lt,.lp 1 q] rfl⟩
  .have e:=(bZ hg)▸e;refine⟨λz=>absurd ⟨?_,by have:=z.2;push_cast at this;exact(dJ [wt d,dZ X] [left] 1 (.i (.n .x) .x) [Gi (.n<|.a .x .y) .x] rfl z.2)⟩ hg,λaa=>⟨[.fz t,.fz<|.int r0,.no,.fz<|.int<|-1,.fz d],by exact eM [.c 0 e] rfl⟩⟩;have z1:=z.1;rw[Z8]at z1;exact z1.1
theorem DG:∀(n:Nat)(d:D)(r:Int),dep d<n->cF P n false 0 [.fz d,.fz<|.int r]=some (.ok<|.fz<|.int<|lH d r,[]):=by intro n;induction n with
 |zero=>intro d r h;exact(False.elim<|Lf [dep d] [Gl (.p 1 .x)<|.c 0] rfl h)
 |succ n ih=>
  intro d r h;by_cases h1:r<1
  .exact O (bZ (by have:=sG d;exact(λzQ=>(lT [wt d] [r] [Gi (.p 1 .x)<|.c 1,Gl (.c 1) .x,Gi (.n .x) .x] rfl h1 this zQ.2)))) (aG [.b 0<|tG h1] rfl)
  .cases d with
   |tuple X=>
    obtain⟨q1,q2⟩:=wm n (.tuple X) r ih X (r-1) .no (by exact(L1 [cZ X,n] (.p 1 .x) .y (.p 1<|.p 1 .x) (.p 1 .y) rfl h))<|Li [r] (.i (.c 0)<|.s .x<|.c 1) [Gi (.c 1) .x] rfl<|Int.not_lt.mp h1;by_cases hg:cR X=true/\(dZ X:Int)<=r-1
    .have q:=q1 hg;refine O (iu ⟨by refine O (rfl:eo (.tuple X)=cR X) ?_;exact hg.1,by refine O (rfl:wt (.tuple X)=1+dZ X) ?_;push_cast;exact(dJ [dZ X] [r] 1 (.i (.a (.c 1)<|.n .x) .x) [Gi (.n .x)<|.s .x<|.c 1] rfl hg.2)⟩)<|O (rfl:wt (.tuple X)=1+dZ X) ?_;have:r-1-(dZ X:Int)=r-((1+dZ X:Nat):Int):=by push_cast;exact(ZX (dJ [dZ X] [r] 1 (.i (.s (.s .x<|.c 1)<|.n .x)<|.s .x<|.a (.c 1)<|.n .x) [] rfl)<|dJ [dZ X] [r] 1 (.i (.s .x<|.a (.c 1)<|.n .x)<|.s (.s .x<|.c 1)<|.n .x) [] rfl)
     exact O this.symm<|aG [.b 0<|jd h1,.lp 6 q] rfl
    .obtain⟨Y,q⟩:=q2 hg;exact O (bZ (λz=>hg ⟨by rw[(rfl:eo (.tuple X)=cR X)]at z;exact z.1,by have:=z.2;rw[(rfl:wt (.tuple X)=1+dZ X)]at this;push_cast at this;exact(dJ [dZ X] [r] 1 (.i (.n .x)<|.s .x<|.c 1) [Gi (.a (.c 1)<|.n .x) .x] rfl this)⟩))<|aG [.b 0<|jd h1,.lp 6 q] rfl
   |int i=>
    have eg:eo (.int i)=ek i:=rfl;refine ak λG g=>?_;by_cases h2: -1000000000000000000<i
    .refine g ?_;by_cases h3:i<1000000000000000000
     .refine O (iu ⟨by refine O eg ?_;simp[ek,h2,h3],by refine O (rfl:wt (.int i)=1) ?_;exact(Li [r] (.i (.n<|.c 1) .x) [Gi (.c 1) .x] rfl<|Int.not_lt.mp h1)⟩) ?_;exact O (rfl:((wt (.int i):Nat):Int)=1)<|aG [.b 0<|jd h1,.b 9<|tG h2,.b 1<|tG h3] rfl
     .exact O (bZ (λz=>h3 (by have:=z.1;rw[eg]at this;simp[ek]at this;exact this.2))) (aG [.b 0<|jd h1,.b 9<|tG h2,.b 1<|jd h3] rfl)
    .refine g ?_;exact O (bZ (λz=>h2 (by have:=z.1;have this:=eg▸this;simp[ek]at this;exact this.1)))<|aG [.b 0<|jd h1,.b 9<|jd h2] rfl
   |none=>exact O (bZ (λz=>by cases z.1))<|aG [.b 0<|jd h1] rfl
   |bool b=>exact O (bZ (λz=>by cases z.1))<|aG [.b 0<|jd h1] rfl
   |str b=>exact O (bZ (λz=>by cases z.1))<|aG [.b 0<|jd h1] rfl
   |list b=>exact O (bZ (λz=>by cases z.1))<|aG [.b 0<|jd h1] rfl
   |dict b=>refine O (bZ (λz=>by cases z.1)) ?_;exact aG [.b 0<|jd h1] rfl
theorem qV(n:Nat)(d:D)(h:dep d<n):cF P (n+1) false 1 [.fz d]=some (.ok<|.fz<|.bool<|eo d&&decide (wt d<=50),[]):=by
 have:decide (0<=lH d 50)=(eo d&&decide (wt d<=50)):=by
  by_cases hg:eo d=true/\(wt d:Int)<=50
  .refine O (iu hg) (O hg.1 ?_);have h1:wt d<=50:=by exact(Ln [wt d] (.w .x<|.c 50) [Gi (.n .x)<|.c 50] rfl hg.2)
   have h2:(0:Int)<=50-wt d:=by exact(Ln [wt d] (.i (.c 0)<|.s (.c 50)<|.n .x) [Gi (.n .x)<|.c 50] rfl hg.2)
   simp[h1];exact(hg.2)
  .refine O (bZ hg) ?_;symm;refine O (show decide (0<=(-1:Int))=false from rfl) ?_;rw[Bool.and_eq_false_iff];cases hq:eo d with
   |false=>exact .inl rfl
   |true=>right;simp only[decide_eq_false_iff_not];intro z;exact hg ⟨hq,by exact(Ln [wt d] (.i (.n .x)<|.c 50) [Gl .x<|.c 50] rfl z)⟩
 exact O this.symm<|aG [.c 0<|(DG n d 50 h),.b 0 (show aI Cm.ge (int<|lH d (50:Int)) (int (0:Int))=some (decide<|(0:Int)<=lH d (50:Int)) by simp only[K2])] rfl
theorem hS{a b:Int}(ha:a.natAbs<2 ^ 64):wG a b=some (.fz<|.int<|a*b):=by unfold wG qL;refine O (Y0 ha) ?_;rfl
theorem zU{a b:Int}(hb:b.natAbs<2 ^ 64):wG a b=some (.fz<|.int<|a*b):=by unfold wG qL;refine O (Y0 hb) ?_;rw[Bool.or_true];rfl
def Vl(d:D):Prop:=eo d=true/\dep d<=5/\wt d<=50
theorem Vl.int{i:Int}(h1: -1000000000000000000<i)(h2:i<1000000000000000000):Vl (.int i):=⟨by show ek i=true;unfold ek;refine O (Y0 h1)<|O (Y0 h2) ?_;rfl,by show 0<=5;decide,by show 1<=50;decide⟩
theorem fm(a:Int)(m:Int)(h0:0<m):0<=a.fmod m/\a.fmod m<m:=⟨Int.fmod_nonneg_of_pos a h0,Int.fmod_lt_of_pos a h0⟩
def sU(d:D):Prop:= ∃i:Int,d = .int i/\0<=i/\i<1000
theorem qt:∀{X:VX},(∀d∈X,sU d)->cR X=true/\cZ X=0/\dZ X=X.length:=by intro X;induction X with
 |nil=>exact @λaa=>⟨rfl,rfl,rfl⟩
 |cons d X ih=>
  intro h;refine aB (h d Zt) λi Q=>?_;refine O Q.1 ?_;have q:=ih<|eA h;refine⟨?_,?_,?_⟩
  .show(ek i&&cR X)=true
   unfold ek;refine O q.1<|O (Y0 (by exact(Li [i] (.i (.p 1<|.g<|.c 1000000000000000000) .x) [Gi (.c 0) .x] rfl Q.2.1)))<|O (Y0 (by exact(Li [i] (.i (.p 1 .x)<|.c 1000000000000000000) [Gi (.p 1 .x)<|.c 1000] rfl Q.2.2))) ?_;rfl
  .exact(Zk (max_le.mpr ⟨(L0 [] (.c 0) (.c 0) rfl),(Ln [cZ X] (.w .x<|.c 0) [Ge .x<|.c 0] rfl q.2.1)⟩)<|L0 [max (0:Nat)<|cZ X] (.c 0) .x rfl)
  .exact(Zk (Ln [dZ X,X.length] (.w (.a (.c 1) .x)<|.p 1 .y) [Ge .x .y] rfl q.2.2)<|Ln [X.length,dZ X] (.w (.p 1 .x)<|.a (.c 1) .y) [Gf .y .x] rfl q.2.2)
theorem Vl.smalls{X:VX}(h:∀d∈X,sU d)(hl:X.length<=49):Vl (.tuple X):=by have q:=qt h;exact⟨q.1,by show cZ X+1<=5;exact(Ln [cZ X] (.w (.p 1 .x)<|.c 5) [Ge .x<|.c 0] rfl q.2.1),by show 1+dZ X<=50;exact(Ln [dZ X,X.length] (.w (.a (.c 1) .x)<|.c 50) [Gl .y<|.c 49,Ge .x .y] rfl hl q.2.2)⟩
theorem idx_map(M:List Int)(i:Int)(h0:0<=i)(h1:i<M.length):∃c,bf (M.map int) i=some (.int c):=by
 unfold bf;refine O (YX h0) ?_;have hl:i.toNat<(M.map int).length:=by rw[ZG];exact(dJ [i.toNat,M.length] [i] 1 (.w (.p 1 .x) .y) [Gi (.p 1 .x)<|.n .y,Gj (.n .x) .x] rfl h1<|ZT (a:=i) h0)
 exact⟨M[i.toNat]'(by simpa using hl),by refine O (ZK hl) ?_;simp⟩
theorem cell(n:Nat)(M:List Int)(i:Int)(h0:0<=i):∃c,cF P (n+1) false 15 [.fz<|.list<|M.map .int,.fz<|.int i]=some (.ok<|.fz<|.int c,[]):=by
 by_cases q:i<M.length
 .refine aB (idx_map M i h0 q) λc hc=>?_;exact⟨c,by exact aG [.b 1 (show aI Cm.lt (int i) (int (↑(List.map int M).length:Int))=some true from tG (by rw[ZG];exact q)),.d 1 hc] rfl⟩
 .exact⟨0,by exact aG [.b 1 (show aI Cm.lt (int i) (int (↑(List.map int M).length:Int))=some false from jd (by rw[ZG];exact q))] rfl⟩
theorem H5(n:Nat)(cE:Int)(s1:Slot):∀(ks:VS)(s2:Slot),(∀k∈ks,k<20)->
  ∃rs,bB ⟨P.glob,cF P n,[],false⟩ [.fz<|.int cE,s1,s2] (.op2 .mod Fy<|.op2 .add (ae 2) f8) (.one 2) [] (ks.map λ(k:Nat)=>.int<|0+k)=some (.ok rs,[.fz<|.int cE,s1,.no])/\rs.length=ks.length/\ ∀d∈rs,sU d:=by
 intro ks;induction ks with
 |nil=>exact @λs2 aa=>⟨[],by refine O Zy ?_;rw[aL];rfl,rfl,λaa h=>by cases h⟩
 |cons k ks ih=>
  intro s2 hk;refine aB (ih (.fz<|.int<|0+k)<|eA hk) λrs q=>?_;refine⟨.int ((cE.fdiv 16).fmod<|0+k+2)::rs,?_,Y2 (· + 1) q.2.1,λd hd=>?_⟩
  .have h0:¬((0:Int)+k+2=0):=by exact(λMV=>(Lf [k] [Gj (.p 2<|.a (.c 0)<|.n .x)<|.c 0] rfl MV))
   exact jS [.cp 3<|q.1] rfl
  .rcases mem_cons.mp hd with rfl|hd
   .exact⟨_,rfl,(fm (cE.fdiv 16) (0+k+2)<|Ln [k] (.i (.p 1<|.c 0)<|.p 2<|.a (.c 0)<|.n .x) [] rfl).1,by exact(dJ [k] [(cE.fdiv (16:Int)).fmod<|(0:Int)+(↑k:Int)+(2:Int)] 1 (.i (.p 1 .x)<|.c 1000) [Gl (.p 1 .x)<|.c 20,Gi (.p 1 .x)<|.p 2<|.a (.c 0)<|.n .x] rfl (hk k Zt) ((fm (cE.fdiv 16) (0+k+2)<|Ln [k] (.i (.p 1<|.c 0)<|.p 2<|.a (.c 0)<|.n .x) [] rfl)).2)⟩
   .exact q.2.2 d hd
noncomputable abbrev uP:VX:=[.int 0,.int 1,.int 2,.int 3,.int 5,.int<|-1,.int<|-4,.tuple [],.tuple [.int 1],.tuple [.int 2,.int 0],.tuple [.int 1,.int 2,.int 3],.tuple [.tuple [],.int 1],.tuple [.tuple [.int 1,.int 2],.tuple [.int 3]],.tuple [.int 4,.tuple [.int 5,.tuple [.int 6]]]]
theorem cj{M:List α}{r:Int}(h0:0<=r)(h1:r<M.length):kU (λd=>bf M r=some d) (λd=>d∈M):=by
 unfold bf;refine O (YX h0) ?_;have hl:r.toNat<M.length:=by exact(dJ [r.toNat,M.length] [r] 1 (.w (.p 1 .x) .y) [Gi (.p 1 .x)<|.n .y,Gj (.n .x) .x] rfl h1<|ZT (a:=r) h0)
 exact⟨M[r.toNat],ZK hl,getElem_mem hl⟩
noncomputable def CV(d:D):Bool:=eo d&&decide (dep d<=5)&&decide (wt d<=50)
theorem i8{d:D}(h:CV d=true):Vl d:=by unfold CV at h;rw[Z8,Z8]at h;exact⟨h.1.1,YW h.1.2,YW h.2⟩
theorem wd:uP.all CV=true:=by kernel_rfl
theorem wc(r:Int)(h0:0<=r)(h1:r<14):kU (λd=>bf uP r=some d) (λd=>Vl d):=by obtain⟨d,h,m⟩:=cj (M:=uP) h0 h1;exact⟨d,h,i8<|all_eq_true.mp wd d m⟩
theorem yq(n:Nat)(cE:Int):kU (λd=>cF P (n+1) false 17 [.fz<|.int cE]=some (.ok<|.fz d,[])) (λd=>Vl d):=by
 by_cases q:cE.fmod 16=14
 .have hf:=fm (cE.fdiv 16) 1999999999999999999 (by decide);exact⟨.int<|(cE.fdiv 16).fmod 1999999999999999999-1000000000000000000+1,by exact aG [.b 1<|eqT q] rfl,.int (Li [(cE.fdiv (16:Int)).fmod (1999999999999999999:Int)] (.i (.p 1<|.g<|.c 1000000000000000000)<|.p 1<|.s .x<|.c 1000000000000000000) [Gi (.c 0) .x] rfl hf.1)<|Li [(cE.fdiv (16:Int)).fmod (1999999999999999999:Int)] (.i (.p 1<|.p 1<|.s .x<|.c 1000000000000000000)<|.c 1000000000000000000) [Gi (.p 1 .x)<|.c 1999999999999999999] rfl hf.2⟩
 .by_cases q2:cE.fmod 16=15
  .have hf:=fm (cE.fdiv 16) 9 (by decide);have ht: -1000000000<=(cE.fdiv 16).fmod 9/\(cE.fdiv 16).fmod 9<=(Sz:Nat):=⟨by exact(Li [(cE.fdiv (16:Int)).fmod (9:Int)] (.i (.g<|.c 1000000000) .x) [Gi (.c 0) .x] rfl hf.1),by show(cE.fdiv 16).fmod 9<=16777216;exact(Li [(cE.fdiv (16:Int)).fmod (9:Int)] (.i .x<|.c 16777216) [Gi (.p 1 .x)<|.c 9] rfl hf.2)⟩
   obtain⟨rs,Q⟩:=H5 n cE (.KK<|.list uP) (List.range ((cE.fdiv 16).fmod 9).toNat) .no λk hk=>by have:=mem_range.mp hk;exact(dJ [k,((cE.fdiv (16:Int)).fmod (9:Int)).toNat] [(cE.fdiv (16:Int)).fmod (9:Int)] 1 (.w (.p 1 .x)<|.c 20) [Gi (.p 1 .x)<|.c 9,Gl (.p 1 .x) .y,Gj (.n .y) .x] rfl hf.2 this<|ZT (a:=(cE.fdiv (16:Int)).fmod (9:Int))<|hf.1)
   exact⟨.tuple rs,by exact aG [.b 1 (show aI Cm.eq (int<|cE.fmod (16:Int)) (int (14:Int))=some false from L6 (by rw[q2];decide)),.b 2<|eqT q2,.l 3 (show b4 gM.range [int<|(cE.fdiv (16:Int)).fmod (9:Int)]=some (gm (0:Int) ((cE.fdiv (16:Int)).fmod (9:Int)).toNat) from(bD _).trans<|YX ht),.cp 0<|Q.1] rfl,.smalls Q.2.2 (by refine O Q.2.1<|O ZE ?_;exact(dJ [((cE.fdiv (16:Int)).fmod (9:Int)).toNat] [(cE.fdiv (16:Int)).fmod (9:Int)] 1 (.w .x<|.c 49) [Gi (.p 1 .x)<|.c 9,Gj (.n .x) .x] rfl hf.2<|ZT (a:=(cE.fdiv (16:Int)).fmod (9:Int))<|hf.1))⟩
  .obtain⟨d,hd,hv⟩:=wc (cE.fmod 16) (fm cE 16 (by decide)).1<|Or.elim (Int.lt_or_gt_of_ne q) (λtC=>tC) (λtC=>(Or.elim (Int.lt_or_gt_of_ne q2) (λJp=>(dJ [] [cE.fmod (16:Int)] 0 (.i (.p 1 .x)<|.c 14) [Gi (.p 1<|.c 14) .x,Gi (.p 1 .x)<|.c 15] rfl tC Jp)) (λJp=>(dJ [] [cE.fmod (16:Int)] 0 (.i (.p 1 .x)<|.c 14) [Gi (.p 1 .x)<|.c 16,Gi (.p 1<|.c 15) .x] rfl ((fm cE 16 (by decide))).2 Jp))));exact⟨d,by exact aG [.b 1<|L6 q,.b 2<|L6 q2,.d 2 hd] rfl,hv⟩
end Lq
end
section
namespace Lq
open PySem Mv
noncomputable abbrev fQ:Str:=⟨[112,108,117,115].toArray⟩
noncomputable abbrev fJ:Str:=⟨[109,105,110,117,115].toArray⟩
noncomputable abbrev eG:Str:=⟨[116,105,109,101,115].toArray⟩
noncomputable abbrev eY:Str:=⟨[111,118,101,114].toArray⟩
noncomputable abbrev gC:Str:=⟨[108,101,115,115].toArray⟩
noncomputable abbrev gB:Str:=⟨[115,97,109,101].toArray⟩
noncomputable abbrev fR:Str:=⟨[106,111,105,110].toArray⟩
noncomputable abbrev cB:Str:=⟨[100,111,119,110].toArray⟩
noncomputable abbrev bq:Str:=⟨[102,105,114,115,116].toArray⟩
noncomputable abbrev cA:Str:=⟨[114,101,115,116].toArray⟩
noncomputable abbrev bn:Str:=⟨[101,109,112,116,121].toArray⟩
noncomputable abbrev aX:Str:=⟨[108,105,115,116].toArray⟩
noncomputable abbrev iM:Str:=⟨[105,102].toArray⟩
noncomputable abbrev be:Str:=⟨[114,101,102,117,115,101].toArray⟩
noncomputable abbrev dc:Str:=⟨[118,97,108,117,101].toArray⟩
noncomputable abbrev oU:Str:=⟨[110,97,109,101].toArray⟩
noncomputable abbrev jz:Str:=⟨[100,111].toArray⟩
noncomputable abbrev cV:Str:=⟨[99,97,108,108].toArray⟩
noncomputable abbrev ja:VT:=[fQ,fJ,eG,eY,gC,gB,fR]
noncomputable abbrev m7:VT:=[cB,bq,cA,bn]
noncomputable abbrev sJ:VT:=[⟨[78,111,78,117,109,98,101,114].toArray⟩,⟨[78,111,76,105,115,116].toArray⟩,⟨[78,111,70,105,114,115,116].toArray⟩,⟨[78,111,68,111,119,110].toArray⟩,⟨[66,121,78,111,117,103,104,116].toArray⟩,⟨[84,111,111,71,114,101,97,116].toArray⟩]
noncomputable abbrev lU:VS:=[97,98,99,100,101,102,103,104,105,106,107,108,109,110,111,112,113,114,115,116,117,118,119,120,121,122]
noncomputable abbrev figuresN:VS:=[48,49,50,51,52,53,54,55,56,57]
noncomputable def dM(x:Str)(l:VT):Bool:=l.any λy=>decide<|y=x
theorem cL{x:Str} :dM x l=true↔x∈l:=by unfold dM;rw[any_eq_true];exact⟨λ⟨y,hy,h⟩=>YW h▸hy,λh=>⟨x,h,Y0 rfl⟩⟩
theorem uE(x:Str):∀l:VT,ew (.str x) (l.map .str)=some (dM x l):=by intro l;induction l with
 |nil=>exact rfl
 |cons y l ih=>
  show(match eqD (.str y) (.str x) with|none=>none|some b=>match ew (.str x) (l.map .str) with|none=>none|some c=>some<|b||c)=_
  rw[e_strD,ih];rfl
theorem k7(x:Str)(l:VT):EG (.str x) (.tuple<|l.map .str)=some (dM x l):=by
 show(if noDict (.str x)=true then ew (.str x) (l.map .str) else none)=_
 rw[YX (show noDict (.str x)=true from rfl),uE]
theorem JJ(x:Str):EG (.str x) nI=some (dM x m7):=k7 x m7
noncomputable def gQ(x:Str):Bool:=dM x ja||(dM x m7||decide (x=aX))
noncomputable def bH(x:Str)(m:Int):Bool:=if x=aX then decide (m<=8) else m==(if dM x ja=true then 2 else 1)
noncomputable def GE(c:Nat):Bool:=lU.contains c||figuresN.contains c
noncomputable def GX(x:Str):Bool:=match x.cps.toList with
 |c::_=>lU.contains c
 |[]=>false
noncomputable def lY(x:Str):Bool:=decide (1<=x.cps.size)&&(decide (x.cps.size<=8)&&(GX x&&(!gQ x&&(!decide (x=iM)&&(!decide (x=be)&&x.cps.toList.all GE)))))
inductive T where
 |val (d:D)|nam (x:Str)|ref (x:Str)|iff (ps:List T)|doo (op:Str) (ps:List T)|call (f:Str) (ps:List T)
mutual
noncomputable def bT:T->D
 |.val d=>.tuple [.str dc,d]
 |.nam x=>.tuple [.str oU,.str x]
 |.ref x=>.tuple [.str be,.str x]
 |.iff ps=>.tuple (.str iM::aZ ps)
 |.doo op ps=>.tuple [.str jz,.str op,.tuple<|aZ ps]
 |.call f ps=>.tuple [.str cV,.str f,.tuple<|aZ ps]
noncomputable def aZ:List T->VX
 |[]=>[]
 |t::ts=>bT t::aZ ts
end
theorem ic(ts:List T):aZ ts=ts.map bT:=by induction ts with
 |nil=>rfl
 |cons t ts ih=>show bT t::aZ ts=_;refine O ih ?_;rfl
noncomputable abbrev dq(l:VT):D:=.tuple<|l.map .str
theorem jr(d:D)(X:VX):yD (.tuple (d::X)) (.int 1) .none=some (.fz<|.tuple X):=YX ⟨by decide,ofNat_le.mpr<|succ_le_succ<|Y7 _⟩
theorem Ub(k:Nat):((((k+1:Nat):Int))==0)=false:=by
 have:¬(((k+1:Nat):Int)=0):=by exact(λQC=>(Lf [k] [Gj (.n<|.p 1 .x)<|.c 0] rfl QC))
 simpa using this
theorem LU(a:D)(l:VX):((((a::l).length:Nat):Int)==0)=false:=by
 have:¬(((a::l).length:Int)=0):=by exact O ZH (λQB=>(Lf [l.length] [Gj (.n<|.p 1 .x)<|.c 0] rfl QB))
 simpa using this
theorem fi(ts:List T):(aZ ts).length=ts.length:=by rw[ic,ZG]
noncomputable abbrev GI(b:Bool):Option (VW Rv×List Mv.Slot):=some (.ok<|.fz<|.bool b,[])
structure Hd where
 nm:Str
 ps:VT
 wn:List Bool
noncomputable abbrev dE(h:Hd):D:=.tuple [.str h.nm,.tuple<|h.ps.map .str,.tuple<|h.wn.map .bool]
noncomputable abbrev A5:VX:=[.int 0,.int 1,.int 2,.tuple [],.tuple [.int 1],.tuple [.int 2,.int 0],.tuple [.tuple [],.int 1],.int 3]
noncomputable abbrev A4:VX:=[.int 3,.int<|-1,.tuple [.int 1,.int 2],.int 0]
noncomputable abbrev A3:VX:=[.tuple [.int 0,.tuple [.int 1,.tuple [.int 2]]],.int<|-4,.int 2,.tuple []]
noncomputable def Sl:VX:=A5++A4++A3++[.tuple [.int 0],.tuple [.int 2],.tuple [.tuple [.int 1,.tuple [.int 2]]],.tuple [.int 1,.tuple [.int 2]],.tuple [.tuple [.int 2]]]
class inductive Tm(kn:VT):T->Prop
 |val {d:D}:d∈Sl->Tm kn (.val d)
 |nam {x:Str}:x∈kn->Tm kn (.nam x)
 |ref {x:Str}:Tm kn (.ref x)
 |doo {op:Str} {t:T}:op∈ [bq,cA,cB]->Tm kn t->Tm kn (.doo op [t])
def Ok(hs:List Hd)(kn:VT):Nat->T->Prop
 |0,_=>False
 |r+1,t=>match t with
  |.val d=>Vl d
  |.nam _=>True
  |.ref _=>True
  |.iff ps=>ps.length=3/\ ∀t∈ps,Ok hs kn r t
  |.doo op ps=>(gQ op=true/\bH op ps.length=true)/\ ∀t∈ps,Ok hs kn r t
  |.call f ps=>(∃h∈hs,h.nm=f/\ps.length=h.wn.length/\ ∀p∈ps.zip h.wn,p.2=true->Tm kn p.1)/\ ∀t∈ps,Ok hs kn r t
noncomputable abbrev Fun:=Hd×T
noncomputable abbrev gR(f:Fun):D:=.tuple [.str f.1.nm,dq f.1.ps,bT f.2]
noncomputable abbrev dW(p:List Fun):D:=.tuple<|p.map gR
theorem Jk:l.reverse.Nodup↔l.Nodup:=by unfold Nodup;rw[List.pairwise_reverse];exact⟨λh=>h.imp λq e=>q e.symm,λh=>h.imp λq e=>q e.symm⟩
set_option tactic.hygienic true in
theorem uq(h:bQ l.reverse=l.length):l.Nodup:=by
 suffices H:∀l:VT,bQ l=l.length->l.Nodup by have:=H l.reverse (by rw[List.length_reverse];exact h);exact(Jk.mp this)
 intro l;induction l with
 |nil=>intro _;exact nodup_nil
 |cons x l ih=>
  intro h;have sw:bQ l<=l.length:=by clear ih h;induction l with
   |nil=>exact Zh _
   |cons y l ih=>show(if l.contains y then bQ l else bQ l+1)<=l.length+1;split<;>(first|exact(L1 [bQ l,l.length] .x (.p 1 .y) .x .y rfl ih)|exact(L1 [bQ l,l.length] (.p 1 .x) (.p 1 .y) .x .y rfl ih))
  have h:(if l.contains x then bQ l else bQ l+1)=l.length+1:=h;split at h
  .exact(False.elim<|Lf [bQ l,l.length] [Gl .x .y,Gf .x<|.p 1 .y] rfl sw h)
  .rename_i q;exact nodup_cons.mpr ⟨λm=>q<|contains_iff_mem.mpr m,ih (by exact(Zk sw<|Ln [l.length,bQ l] (.w .x .y) [Gf (.p 1 .y)<|.p 1 .x] rfl h))⟩
theorem oz(n:Int)(M:List α):(rep n M).length=M.length*n.toNat:=by unfold rep;rw[List.length_flatten];simp[mul_comm]
theorem fG(n:Nat)(p:Int):∃q:Int,cF P (n+1) false 16 [.fz<|.int p]=some (.ok<|.fz<|.int q,[]):=by have h:=fm (p*48271+11) 2147483647 (by decide);have m1:=zU (a:=p) (b:=48271) (by decide);have m2:=hS (a:=(p*48271+11).fmod 2147483647) (b:=(p*48271+11).fmod 2147483647) (by exact(dJ [((p*(48271:Int)+(11:Int)).fmod (2147483647:Int)).natAbs] [(p*(48271:Int)+(11:Int)).fmod (2147483647:Int)] 1 (.w (.p 1 .x)<|.c 18446744073709551616) [Gi (.p 1 .x)<|.c 2147483647,Gj (.n .x) .x] rfl h.2<|ZW (a:=(p*(48271:Int)+(11:Int)).fmod (2147483647:Int))<|h.1));exact⟨((p*(48271:Int)+(11:Int)).fmod (2147483647:Int)*(p*(48271:Int)+(11:Int)).fmod (2147483647:Int)).fmod (2147483629:Int),aG [.v 0 m1,.v 2 m2] rfl⟩
noncomputable abbrev eE:Str:=⟨[116,111,112].toArray⟩
noncomputable abbrev Cb(x:Str):Str:=⟨x.cps ++ #[122]⟩
structure iK(l:VT):Prop where
 len:l.length=12
 nd:l.Nodup
 nm:∀x∈l,lY x=true
 zz:eE∉l
 az:∀x∈l,Cb x∉l
noncomputable def tu(l:VT):Bool:=decide (l.length=12)&&(decide (bQ l.reverse=l.length)&&(l.all lY&&(!dM eE l&&l.all λx=>!dM (Cb x) l)))
theorem wD(h:tu l=true):iK l:=by unfold tu at h;simp only[Z8,YZ,ZQ,Z6]at h;obtain⟨h1,h2,h3,h4,h5⟩:=h;exact⟨h1,uq h2,h3,λm=>(by rw[cL.mpr m]at h4;cases h4),λx hx m=>(by have:=h5 x hx;rw[cL.mpr m]at this;cases this)⟩
noncomputable abbrev qr:VT:=[⟨[105,102,115].toArray⟩,⟨[108,105,115,116,120].toArray⟩,⟨[112,108,117,115,50].toArray⟩,⟨[114,101,102,117,115,101,115].toArray⟩,⟨[114,101,115,116,101,100].toArray⟩,⟨[100,111,119,110,115].toArray⟩,⟨[115,97,109,101,49].toArray⟩,⟨[106,111,105,110,115].toArray⟩,⟨[111,118,101,114,115].toArray⟩,⟨[102,105,114,115,116,115].toArray⟩,⟨[101,109,112,116,121,120].toArray⟩,⟨[97,57].toArray⟩]
noncomputable def PC(r:Nat):VT:=(List.range 12).map λk=>qr.getD ((r+k) % 12) ⟨#[]⟩
theorem Qn:((List.range 12).all λr=>tu<|PC r)=true:=by kernel_rfl
theorem IS(r:Nat)(h:r<12):iK (PC r):=wD<|all_eq_true.mp Qn r<|mem_range.mpr h
theorem rm(a:Int)(k N:Nat)(h:0<N):(a+(0+(k:Int))).fmod N=((((a.fmod N).toNat+k) % N:Nat):Int):=by rw[Int.fmod_eq_emod_of_nonneg _<|ZV N,Int.fmod_eq_emod_of_nonneg _<|ZV N,ZR,Int.natCast_emod,natCast_add,ZT<|Int.emod_nonneg _<|Int.natCast_ne_zero.mpr<|Nat.pos_iff_ne_zero.mp h,Int.emod_add_emod]
theorem qx(n:Nat)(c:Int)(a1 a2 a3 a4 a5 a6:Slot)(hs:a1 = .KK (.list<|qr.map .str)\/a1 = .fz (.list<|qr.map .str)):∀(ks:VS)(s7:Slot), ∃Y,bB ⟨P.glob,cF P n,[],false⟩ [.fz<|.int c,a1,a2,a3,a4,a5,a6,s7] Oo (.one 7) [] (ks.map λ(k:Nat)=>.int<|0+k)=some (.ok<|(ks.map λk=>qr.getD ((((c.fdiv 9).fmod 12).toNat+k) % 12) ⟨#[]⟩).map .str,Y)
 |[]=>@λs7=>⟨_,by rw[Zy,aL];rfl⟩
 |k::ks=>@λs7=>by
  refine aB (qx n c (.fz<|.list<|qr.map .str) a2 a3 a4 a5 a6 (.inr rfl) ks<|.fz<|.int<|0+k) λY ih=>?_;have hm:=fm (c.fdiv 9) 12 (by decide);have hx:bf (qr.map str) ((c.fdiv 9+(0+(k:Int))).fmod 12)=some (.str<|qr.getD ((((c.fdiv 9).fmod 12).toNat+k) % 12) ⟨#[]⟩):=by refine O (rm (c.fdiv 9) k 12 (by decide)) ?_;unfold bf;rw[YX<|ZV _,ZU,ZJ];refine O ZN ?_;refine O (ZK (by exact(mod_lt _ (by decide)))) ?_;rfl
  refine⟨Y,?_⟩;refine O Zz ?_;rw[Zz];refine O Zz ?_;rcases hs with rfl|rfl<;>exact jS [.d 3 hx,.cp 0 ih] rfl
noncomputable abbrev lC:VS:=[97,98,99,100,101,102,103,104,105,106,107,108,109,110,111,112,113,114,115,116,117,118,119,120,121,122,48,49,50,51,52,53,54,55,56,57]
noncomputable def sg(p r:Int)(d:Nat):Str:=⟨(rep p [109]).toArray ++ #[d]++(rep r [109]).toArray⟩
noncomputable def big(p r N:Nat):VT:=(lC.take N).map<|sg p r
theorem FM(a b:Str):decide (a=b)=(a.cps.toList==b.cps.toList):=Y5<|(e_strD a b).symm.trans rfl
noncomputable def Tx(L:VS):Bool:=match L with
 |c::_=>lU.contains c
 |[]=>false
noncomputable def zE(L:VS):Bool:=decide (1<=L.length)&&(decide (L.length<=8)&&(Tx L&&(!((ja.any λy=>y.cps.toList==L)||((m7.any λy=>y.cps.toList==L)||(L==aX.cps.toList)))&&(!(L==iM.cps.toList)&&(!(L==be.cps.toList)&&L.all GE)))))
theorem Ax(x:Str):lY x=zE x.cps.toList:=by unfold lY gQ dM zE;refine O (show GX x=Tx x.cps.toList from rfl) ?_;simp only[FM,length_toList]
noncomputable def sl(p r d:Nat):VS:=replicate p 109++d::replicate r 109
theorem kW(p r d:Nat):(sg p r d).cps.toList=sl p r d:=by
 have e:∀n:Nat,rep (n:Int) [109]=replicate n 109:=λn=>by unfold rep;rw[ZU];exact List.flatten_replicate_singleton
 unfold sg sl;rw[e,e];simp
theorem Iz{p r:Nat}(h:sg p r d=sg p r e):d=e:=by have h:=Y2 (λx:Str=>x.cps.toList) h;simp only[kW]at h;exact(List.cons.inj<|List.append_cancel_left h).1
noncomputable def Lc(p r N:Nat):Bool:=(lC.take N).all λd=>zE (sl p r d) && !(sl p r d==[116,111,112])
theorem R4:((List.range 8).all λs=>(List.range<|s+1).all λp=>Lc p (s-p) (if p=0 then 26 else 36))=true:=by kernel_rfl
theorem Iy:lC.Nodup:=by decide +kernel
theorem F6{p r N:Nat}(h:N<=36):(big p r N).length=N:=by unfold big;rw[ZG];exact O length_take<|min_eq_left h
theorem H8{p r N t:Nat}(hN:N=26\/N=36)(h:Lc p r N=true):iK ((List.range 12).map λk=>sg p r<|lC.getD ((t+k) % N) 0):=by
 unfold Lc at h;simp only[Z8,ZQ,Z6]at h;have h2:∀x∈big p r N,lY x=true:=λx hx=>by obtain⟨d,hd,rfl⟩:=mem_map.mp hx;rw[Ax,kW];exact(h d hd).1
 have h3:dM eE (big p r N)=false:=by rw[Bool.eq_false_iff];intro m;obtain⟨d,hd,e⟩:=mem_map.mp<|cL.mp m;have e:=Y2 (λx:Str=>x.cps.toList) e;simp only[kW]at e;have:=(h d hd).2;rw[e]at this;exact absurd this (by decide)
 have h4:∀x∈big p r N,x.cps.size=p+r+1:=λx hx=>by refine aB (mem_map.mp hx) λd Z=>?_;refine O Z.2.symm ?_;refine O length_toList.symm ?_;rw[kW];unfold sl;simp;exact(Zk (L0 [p,r] (.a .x<|.p 1 .y) (.p 1<|.a .x .y) rfl)<|L0 [p,r] (.p 1<|.a .x .y) (.a .x<|.p 1 .y) rfl)
 have hl:(big p r N).length=N:=F6<|Or.elim hN (λzP=>(Ln [N] (.w .x<|.c 36) [Ge .x<|.c 26] rfl zP)) (λzP=>(Ln [N] (.w .x<|.c 36) [Ge .x<|.c 36] rfl zP));have hg:∀i,i<N->(big p r N)[i]?=some (sg p r<|lC.getD i 0):=λi hi=>by have Rb:i<lC.length:=Zd hi (by rcases hN with rfl|rfl<;>decide);unfold big;refine O ZJ<|O (List.getElem?_take_of_lt hi)<|O ZN<|O (ZK Rb) ?_;rfl
 have hm:∀x,x∈((List.range 12).map λk=>sg p r<|lC.getD ((t+k) % N) 0)->x∈big p r N:=λx hx=>by refine aB (mem_map.mp hx) λk Q=>?_;refine O Q.2.symm ?_;exact Zs<|hg _<|mod_lt _<|Or.elim hN (λzN=>(Ln [N] (.w (.p 1<|.c 0) .x) [Gf .x<|.c 26] rfl zN)) (λzN=>(Ln [N] (.w (.p 1<|.c 0) .x) [Gf .x<|.c 36] rfl zN))
 refine⟨by simp,?_,λx hx=>h2 x<|hm x hx,λhx=>(by have h3:=(cL.mpr<|hm _ hx)▸h3;cases h3),λx hx hy=>?_⟩
 .refine pairwise_map.mpr (Pairwise.imp_of_mem ?_ List.pairwise_lt_range);intro a b ha hb Rj e;have ha:=mem_range.mp ha;have hb:=mem_range.mp hb;have i1:(t+a) % N<N:=mod_lt _<|Or.elim hN (λzJ=>(Ln [N] (.w (.p 1<|.c 0) .x) [Gf .x<|.c 26] rfl zJ)) (λzJ=>(Ln [N] (.w (.p 1<|.c 0) .x) [Gf .x<|.c 36] rfl zJ));have i2:(t+b) % N<N:=mod_lt _<|L1 [N,(t+a) % N] (.p 1<|.c 0) .x (.p 1 .y) .x rfl i1;have de:(t+a) % N≠(t+b) % N:=by rcases hN with rfl|rfl<;>omega
  have g1:=hg _ i1;have g2:=hg _ i2;rw[<- hl]at i1 i2;rw[hl]at i1 i2;have q:=List.pairwise_iff_getElem.mp (pairwise_map.mpr (((List.take_sublist N lC).nodup Iy).imp λde e=>de<|Iz e):(big p r N).Nodup);have e1:(big p r N)[(t+a) % N]'(Ln [(t+a) % N,(big p r N).length,N] (.w (.p 1 .x) .y) [Gf .y .z,Gl (.p 1 .x) .z] rfl hl i1)=sg p r (lC.getD ((t+a) % N) 0):=by have:=ZK (l:=big p r N) (i:=(t+a) % N)<|Ln [(t+a) % N,(big p r N).length,N] (.w (.p 1 .x) .y) [Gf .y .z,Gl (.p 1 .x) .z] rfl hl i1;rw[this]at g1;exact Y5 g1
  have e2:(big p r N)[(t+b) % N]'(Ln [(t+b) % N,(big p r N).length,N] (.w (.p 1 .x) .y) [Gf .y .z,Gl (.p 1 .x) .z] rfl hl i2)=sg p r (lC.getD ((t+b) % N) 0):=by have:=ZK (l:=big p r N) (i:=(t+b) % N)<|Ln [(t+b) % N,(big p r N).length,N] (.w (.p 1 .x) .y) [Gf .y .z,Gl (.p 1 .x) .z] rfl hl i2;rw[this]at g2;exact Y5 g2
  rcases Nat.lt_or_gt_of_ne de with wZ|wZ
  .exact q _ _ (Ln [(t+a) % N,(big p r N).length,N] (.w (.p 1 .x) .y) [Gf .y .z,Gl (.p 1 .x) .z] rfl hl i1) (by exact(Ln [(t+b) % N,(big p r N).length,N] (.w (.p 1 .x) .y) [Gf .y .z,Gl (.p 1 .x) .z] rfl hl i2)) wZ (by refine O e1<|O e2 ?_;exact e)
  .exact q _ _ (by exact(Ln [(t+b) % N,(big p r N).length,N] (.w (.p 1 .x) .y) [Gf .y .z,Gl (.p 1 .x) .z] rfl hl i2)) (by exact(Ln [(t+a) % N,(big p r N).length,N] (.w (.p 1 .x) .y) [Gf .y .z,Gl (.p 1 .x) .z] rfl hl i1)) wZ (by refine O e1<|O e2 ?_;exact e.symm)
 .have s1:=h4 _<|hm _ hx;have:(Cb x).cps.size=x.cps.size+1:=by unfold Cb;refine O size_append ?_;rfl
  exact(Lf [x.cps.size,p,r,(Cb x).cps.size] [Gf .x<|.p 1<|.a .y .z,Ge .u<|.p 1<|.a .y .z,Gf .u<|.p 1 .x] rfl s1 (h4 _<|hm _ hy) this)
theorem Ds(n:Nat)(c:Int)(z p N:Nat)(hz:1<=z/\z<=8)(hp:p<z)(hN:N=if p=0 then 26 else 36)(a7:Slot):∀(ks:VS)(VM:VT)(s5 s6:Slot),VM.length+ks.length<=100->cm ⟨P.glob,cF P n,[],false⟩ [.fz<|.int c,.fz<|.str ⟨lC.toArray⟩,.fz<|.int z,.fz<|.int p,.KK<|.list<|VM.map .str,s5,s6,a7] (.one 5) SP [5,6] (ks.map λ(k:Nat)=>.int<|0+k)=some (.ok .next,[.fz<|.int c,.fz<|.str ⟨lC.toArray⟩,.fz<|.int z,.fz<|.int p,.KK<|.list<|(VM++ks.map λk=>sg p ((z-1-p:Nat):Int)<|lC.getD ((((c.fdiv 64).fmod N).toNat+k) % N) 0).map .str,.no,.no,a7]):=by intro ks;induction ks with
 |nil=>exact @λVM s5 s6 aa=>by refine O Zy ?_;rw[bb,Zy,ZO];rfl
 |cons k ks IH=>
  intro VM s5 s6 hl;have ih:=IH<|VM++[sg p ((z-1-p:Nat):Int)<|lC.getD ((((c.fdiv 64).fmod N).toNat+k) % N) 0];have PP:N=26\/N=36:=by refine O hN ?_;by_cases q:p=0<;>simp[q]
  have hx:bf lC ((c.fdiv 64+(0+(k:Int))).fmod N)=some (lC.getD ((((c.fdiv 64).fmod N).toNat+k) % N) 0):=by have e:(c.fdiv 64+(0+(k:Int))).fmod N=(((((c.fdiv 64).fmod N).toNat+k) % N:Nat):Int):=rm (c.fdiv 64) k N (by rcases PP with rfl|rfl<;>decide);have wZ:(((c.fdiv 64).fmod N).toNat+k) % N<lC.length:=Zd (mod_lt _ (by rcases PP with rfl|rfl<;>decide)) (by rcases PP with rfl|rfl<;>decide);refine O e ?_;unfold bf;refine O (YX<|ZV _) ?_;rw[ZU];refine O ZN ?_;refine O (ZK wZ) ?_;rfl
  have hi:bf [int 26,.int 36] (if decide (0<(p:Int))=true then 1 else 0)=some (.int N):=by
   refine O hN ?_;by_cases q:p=0
   .subst q;rfl
   .refine O (YY q) (O (YX<|Y0 ((Or.elim (Nat.lt_or_gt_of_ne q) (λzK=>(dJ [p] [] 0 (.i (.p 1<|.c 0)<|.n .x) [Gl (.p 1 .x)<|.c 0] rfl zK)) (λzK=>(Ln [p] (.i (.p 1<|.c 0)<|.n .x) [Gl (.p 1<|.c 0) .x] rfl zK))):0<(p:Int))) ?_);rfl
  have n0:¬((N:Int)=0):=by rcases PP with rfl|rfl<;>decide
  have mL:cW (.str ⟨lC.toArray⟩) (.int<|(c.fdiv 64+(0+(k:Int))).fmod N)=some (.str ⟨#[lC.getD ((((c.fdiv 64).fmod N).toNat+k) % N) 0]⟩):=by
   show(bf lC _).map _=_
   refine O hx ?_;rfl
  have e1:∀k:Int,0<=k->k<=10->op2 .mul (.str ⟨#[109]⟩) (.int k)=some (.fz<|.str ⟨(rep k [109]).toArray⟩):=λk h0 h1=>(Jh _ _).trans<|YX ⟨by exact(Li [k] (.i (.g<|.c 1000000000) .x) [Gi (.c 0) .x] rfl h0),by exact(Li [k] (.i .x<|.c 1000000000) [Gi .x<|.c 10] rfl h1),by show 1*k.toNat<=16777216;exact(dJ [k.toNat] [k] 1 (.w (.m 1 .x)<|.c 16777216) [Gi .x<|.c 10,Gj (.n .x) .x] rfl h1<|ZT (a:=k) h0)⟩;have l1:∀k:Int,k<=10->(rep k [109]).length<=10:=λk h=>by rw[oz];show 1*k.toNat<=10;omega
  have a2:=e1 ((z:Int)-1-p) (Ln [z,p] (.i (.c 0)<|.s (.s (.n .x)<|.c 1)<|.n .y) [Gl (.p 1 .y) .x] rfl hp)<|Ln [z,p] (.i (.s (.s (.n .x)<|.c 1)<|.n .y)<|.c 10) [Gl .x<|.c 8] rfl hz.2;have ez:((z:Int)-1-p)=((z-1-p:Nat):Int):=by exact(ZX (Ln [z,p,z-1-p,z-1] (.i (.s (.s (.n .x)<|.c 1)<|.n .y)<|.n .z) [Gf (.a .z .y) .u,Gf (.p 1 .u) .x] rfl (Za (n:=z-(1:Nat)) (m:=p)<|Ln [p,z-1,z] (.w .x .y) [Gl (.p 1 .x) .z,Gf (.p 1 .y) .z] rfl hp<|Za (n:=z) (m:=1)<|hz.1)<|Za (n:=z) (m:=1)<|hz.1)<|Ln [z-1-p,z,p,z-1] (.i (.n .x)<|.s (.s (.n .y)<|.c 1)<|.n .z) [Ge (.a .x .z) .u,Ge (.p 1 .u) .y] rfl (Za (n:=z-(1:Nat)) (m:=p)<|Ln [p,z-1,z] (.w .x .y) [Gl (.p 1 .x) .z,Gf (.p 1 .y) .z] rfl hp<|Za (n:=z) (m:=1)<|hz.1)<|Za (n:=z) (m:=1)<|hz.1)
  rw[show rep ((z:Int)-1-p) [109]=rep ((z-1-p:Nat):Int) [109] by exact O ez rfl]at a2;simp only[Zz];generalize lC.getD ((((c.fdiv 64).fmod N).toNat+k) % N) 0=d at mL ih ⊢;have a3:op2 .add (.str ⟨(rep (p:Int) [109]).toArray⟩) (.str ⟨#[d]⟩)=some (.fz<|.str ⟨(rep (p:Int) [109]).toArray ++ #[d]⟩):=(zq _ _).trans<|YX (by refine O Zo ?_;show _+1<=16777216;exact(L1 [(rep (↑p:Int) [109]).length] (.p 1 .x) (.c 16777216) .x (.c 10) rfl<|l1 (p:Int)<|Ln [p,z] (.i (.n .x)<|.c 10) [Gl .y<|.c 8,Gl (.p 1 .x) .y] rfl hz.2 hp));have a4:op2 .add (.str ⟨(rep (p:Int) [109]).toArray ++ #[d]⟩) (.str ⟨(rep ((z-1-p:Nat):Int) [109]).toArray⟩)=some (.fz<|.str<|sg p ((z-1-p:Nat):Int) d):=(zq _ _).trans<|YX (by show((rep (p:Int) [109]).toArray ++ #[d]).size+((rep ((z-1-p:Nat):Int) [109]).toArray).size<=16777216;refine O size_append<|O Zo<|O Zo<|O Zo ?_;show _+1+_<=16777216;exact(Ln [(rep (↑p:Int) [109]).length,(rep (↑(z-1-p):Int) [109]).length] (.w (.a (.p 1 .x) .y)<|.c 16777216) [Gl .x<|.c 10,Gl .y<|.c 10] rfl (l1 (p:Int)<|Ln [p,z] (.i (.n .x)<|.c 10) [Gl .y<|.c 8,Gl (.p 1 .x) .y] rfl hz.2 hp)<|l1 ((z-1-p:Nat):Int)<|Ln [z-1-p,z,p,z-1] (.i (.n .x)<|.c 10) [Gl .y<|.c 8,Ge (.a .x .z) .u,Ge (.p 1 .u) .y] rfl hz.2 (Za (n:=z-(1:Nat)) (m:=p)<|Ln [p,z-1,z] (.w .x .y) [Gl (.p 1 .x) .z,Gf (.p 1 .y) .z] rfl hp<|Za (n:=z) (m:=1)<|hz.1)<|Za (n:=z) (m:=1)<|hz.1));have cC:decide ((VM.map str).length<Sz)=true:=Y0 (by rw[ZG];simp only[ZH,Sz]at *;exact(L1 [VM.length,ks.length] (.p 1 .x) (.c 16777216) (.a .x<|.p 1 .y) (.c 100) rfl hl));have ih:=ih (.fz<|.int<|0+k) (.fz<|.str ⟨#[d]⟩) (by simp only[ZI,ZH,length_nil]at *;exact(L1 [VM.length,ks.length] (.a (.a .x<|.p 1<|.c 0) .y) (.c 100) (.a .x<|.p 1 .y) (.c 100) rfl hl));rw[ZP,ZB (l₂:=[_])]at ih;exact eM [.b 2 (show aI Cm.gt (int (↑p:Int)) (int (0:Int))=some (decide<|(0:Int)<(↑p:Int)) by simp only[B2]),.d 1 hi,.v 0<|QD (a:=(c.fdiv (64:Int)+((0:Int)+(↑k:Int)))) n0,.d 0 mL,.v 0<|(e1 (p:Int) (Ln [p] (.i (.c 0)<|.n .x) [] rfl)<|Ln [p,z] (.i (.n .x)<|.c 10) [Gl .y<|.c 8,Gl (.p 1 .x) .y] rfl hz.2 hp),.v 0 a3,.v 2 a2,.v 0 a4,.t 0 cC,.lp 0 ih] rfl
theorem zD(n:Nat)(c:Int):LA (λl r=>cF P (n+1) false 19 [.fz<|.int c]=some (.ok r,[])) (λl r=>iK l) (λl r=>(r = .KK (.list<|l.map .str)\/r = .fz (.list<|l.map .str))):=by
 by_cases q:c.fmod 9=8
 .have TD:=fm (c.fdiv 9) 12 (by decide);exact aB (qx n c (.KK<|.list<|qr.map .str) .no .no .no .no .no (.inl rfl) (List.range 12) .no) λY hf=>(⟨PC ((c.fdiv 9).fmod 12).toNat,.KK<|.list<|(PC ((c.fdiv 9).fmod 12).toNat).map .str,by exact aG [.b 1<|eqT q,.l 2<|(rfl:b4 .range [.int 12]=some ((List.range 12).map λ(k:Nat)=>int<|0+k)),.cp 0 hf] rfl,IS _<|dJ [((c.fdiv (9:Int)).fmod (12:Int)).toNat] [(c.fdiv (9:Int)).fmod (12:Int)] 1 (.w (.p 1 .x)<|.c 12) [Gi (.p 1 .x)<|.c 12,Gj (.n .x) .x] rfl TD.2<|ZT (a:=(c.fdiv (9:Int)).fmod (12:Int))<|TD.1,.inl rfl⟩)
 .have h8:=fm c 8 (by decide);have hp:=fm (c.fdiv 8) (1+c.fmod 8)<|Li [c.fmod (8:Int)] (.i (.p 1<|.c 0)<|.a (.c 1) .x) [Gi (.c 0) .x] rfl h8.1;have GS:1+c.fmod 8=(((1+c.fmod 8).toNat:Nat):Int):=by exact(ZX (dJ [((1:Int)+c.fmod (8:Int)).toNat] [c.fmod (8:Int)] 1 (.i (.a (.c 1) .x)<|.n .x) [Gk (.n .x)<|.a (.c 1) .x] rfl<|ZT (a:=(1:Int)+c.fmod (8:Int))<|Li [c.fmod (8:Int)] (.i (.c 0)<|.a (.c 1) .x) [Gi (.c 0) .x] rfl h8.1)<|dJ [((1:Int)+c.fmod (8:Int)).toNat] [c.fmod (8:Int)] 1 (.i (.n .x)<|.a (.c 1) .x) [Gj (.n .x)<|.a (.c 1) .x] rfl<|ZT (a:=(1:Int)+c.fmod (8:Int))<|Li [c.fmod (8:Int)] (.i (.c 0)<|.a (.c 1) .x) [Gi (.c 0) .x] rfl h8.1)
  have v1:op2 .add (.int 1) (.int<|c.fmod 8)=some (.fz<|.int (((1+c.fmod 8).toNat:Nat):Int)):=by refine O GS.symm ?_;rfl
  generalize (1+c.fmod 8).toNat=z at GS v1;have hp:=GS▸hp;have JP:(c.fdiv 8).fmod z=((((c.fdiv 8).fmod z).toNat:Nat):Int):=by exact(ZX (dJ [((c.fdiv (8:Int)).fmod (↑z:Int)).toNat] [(c.fdiv (8:Int)).fmod (↑z:Int)] 1 (.i .x<|.n .x) [Gk (.n .x) .x] rfl<|ZT (a:=(c.fdiv (8:Int)).fmod (↑z:Int))<|hp.1)<|dJ [((c.fdiv (8:Int)).fmod (↑z:Int)).toNat] [(c.fdiv (8:Int)).fmod (↑z:Int)] 1 (.i (.n .x) .x) [Gj (.n .x) .x] rfl<|ZT (a:=(c.fdiv (8:Int)).fmod (↑z:Int))<|hp.1)
  have v2:op2 .mod (.int<|c.fdiv 8) (.int z)=some (.fz<|.int ((((c.fdiv 8).fmod z).toNat:Nat):Int)):=by refine O JP.symm ?_;rw[MG];exact O (YY (by exact(λMX=>(lT [z] [c.fmod (8:Int)] [Gi (.c 0) .x,Gj (.a (.c 1) .x)<|.n .x,Gj (.n .x)<|.c 0] rfl h8.1 GS MX)))) rfl
  generalize ((c.fdiv 8).fmod z).toNat=p at JP v2;have hp:=JP▸hp;have lp:=Ds n c z p (if p=0 then 26 else 36) (⟨(Ln [z,p] (.w (.c 1) .x) [Gi (.c 0)<|.n .y,Gi (.p 1<|.n .y)<|.n .x] rfl hp.1 hp.2),(dJ [z] [c.fmod (8:Int)] 1 (.w .x<|.c 8) [Gi (.p 1 .x)<|.c 8,Gk (.a (.c 1) .x)<|.n .x] rfl h8.2 GS)⟩) (Ln [p,z] (.w (.p 1 .x) .y) [Gi (.p 1<|.n .x)<|.n .y] rfl hp.2) rfl .no (List.range 12) [] .no .no (by decide);rw[Zy,Zq]at lp;refine⟨(List.range 12).map λk=>sg p ((z-1-p:Nat):Int)<|lC.getD ((((c.fdiv 64).fmod (if p=0 then 26 else 36:Nat)).toNat+k) % (if p=0 then 26 else 36)) 0,.fz<|.list<|((List.range 12).map λk=>sg p ((z-1-p:Nat):Int)<|lC.getD ((((c.fdiv 64).fmod (if p=0 then 26 else 36:Nat)).toNat+k) % (if p=0 then 26 else 36)) 0).map .str,?_,H8 (p:=p) (r:=z-1-p) (N:=if p=0 then 26 else 36) (t:=((c.fdiv 64).fmod (if p=0 then 26 else 36:Nat)).toNat) ?_ ?_,.inr rfl⟩
  .exact aG [.b 1<|L6 q,.v 2 v1,.v 1 v2,.l 0<|(rfl:b4 .range [.int 12]=some ((List.range 12).map λ(k:Nat)=>int<|0+k)),.lp 0 lp] rfl
  .by_cases q:p=0<;>simp[q]
  .exact all_eq_true.mp (all_eq_true.mp R4 (z-1)<|mem_range.mpr<|dJ [z-(1:Nat),z] [c.fmod (8:Int)] 1 (.w (.p 1 .x)<|.c 8) [Gi (.p 1 .x)<|.c 8,Gk (.a (.c 1) .x)<|.n .y,Ge (.p 1 .x) .y] rfl h8.2 GS<|Za (n:=z) (m:=1)<|Ln [z,p] (.w (.c 1) .x) [Gi (.c 0)<|.n .y,Gi (.p 1<|.n .y)<|.n .x] rfl hp.1 hp.2) p (mem_range.mpr<|Ln [p,z-1,z] (.w (.p 1 .x)<|.p 1 .y) [Gi (.p 1<|.n .x)<|.n .z,Gf (.p 1 .y) .z] rfl hp.2<|Za (n:=z) (m:=1)<|Ln [z,p] (.w (.c 1) .x) [Gi (.c 0)<|.n .y,Gi (.p 1<|.n .y)<|.n .x] rfl hp.1 hp.2)
structure eL(hs:List Hd)(kn:VT)(d:Nat)(t:T):Prop where
 ok:∀r,d<=r->Ok hs kn r t
section
variable {hs:List Hd}{kn:VT}{d e:Nat}{t:T}{ps:List T}{x op:Str}
theorem eL.mono(h:eL hs kn d t)(hd:d<=e):eL hs kn e t:=⟨λr hr=>h.ok r<|Zg hd hr⟩
theorem eL.up(h:∀r,d<=r->Ok hs kn (r+1) t):eL hs kn (d+1) t:=⟨λr hr=>by cases r with
 |zero=>exact(Zb _ hr).elim
 |succ r=>exact h r<|Zi hr⟩
theorem eL.val{d:D}(h:Vl d):eL hs kn 1 (.val d):=.up λaa ai=>h
theorem eL.nam:eL hs kn 1 (.nam x):=.up λaa ai=>trivial
theorem eL.ref:eL hs kn 1 (.ref x):=.up λaa ai=>trivial
theorem eL.iff(hl:ps.length=3)(h:∀t∈ps,eL hs kn d t):eL hs kn (d+1) (.iff ps):=.up λr hr=>⟨hl,λt ht=>(h t ht).ok r hr⟩
theorem eL.doo(ho:gQ op=true)(hl:bH op ps.length=true)(h:∀t∈ps,eL hs kn d t):eL hs kn (d+1) (.doo op ps):=.up λr hr=>⟨⟨ho,hl⟩,λt ht=>(h t ht).ok r hr⟩
theorem eL.call{g:Hd}(hg:g∈hs)(hl:ps.length=g.wn.length)(ht:∀p∈ps.zip g.wn,p.2=true->Tm kn p.1)(h:∀t∈ps,eL hs kn d t):eL hs kn (d+1) (.call g.nm ps):=.up λr hr=>⟨⟨g,hg,rfl,hl,ht⟩,λt ht=>(h t ht).ok r hr⟩
end
theorem tY:(∀d∈A5,d∈Sl)/\(∀d∈A4,d∈Sl)/\ ∀d∈A3,d∈Sl:=by unfold Sl;exact⟨λd h=>Zx _<|Zx _<|Zx _ h,λd h=>Zx _<|Zx _<|Zw _ h,λd h=>Zx _<|Zw _ h⟩
theorem o7:A5.all CV=true/\A4.all CV=true/\A3.all CV=true:=⟨by kernel_rfl,by kernel_rfl,by kernel_rfl⟩
theorem A2(n:Nat)(p w:Int):kU (λd=>cF P (n+1) false 20 [.fz<|.int p,.fz<|.int w]=some (.ok<|.fz d,[])) (λd=>Vl d/\d∈Sl):=by
 have h4:=fm p 4 (by decide);obtain⟨d0,e0,m0⟩:=cj (M:=A5) (fm p 8 (by decide)).1 (fm p 8 (by decide)).2;obtain⟨d1,e1,m1⟩:=cj (M:=A4) h4.1 h4.2;obtain⟨d2,e2,m2⟩:=cj (M:=A3) h4.1 h4.2;have l8:((A5.length:Nat):Int)=8:=rfl;have l4:((A4.length:Nat):Int)=4:=rfl;have Vy:((A3.length:Nat):Int)=4:=rfl;by_cases q1:w=1
 .subst q1;refine⟨d1,?_,⟨i8<|all_eq_true.mp o7.2.1 d1 m1,tY.2.1 d1 m1⟩⟩;exact aG [.d 6 e1] rfl
 .have b1:(w==1)=false:=by simpa using q1
  by_cases q2:w=2
  .subst q2;refine⟨d2,?_,⟨i8<|all_eq_true.mp o7.2.2 d2 m2,tY.2.2 d2 m2⟩⟩;exact aG [.d 6 e2] rfl
  .have b2:(w==2)=false:=by simpa using q2
   refine⟨d0,?_,⟨i8<|all_eq_true.mp o7.1 d0 m0,tY.1 d0 m0⟩⟩;exact aG [.b 0<|(cD _ _).trans<|Y2 some b1,.b 1<|(cD _ _).trans<|Y2 some b2,.d 3 e0] rfl
theorem D0:∀l:VT,noDicts (l.map .str)=true:=by intro l;induction l with
 |nil=>exact rfl
 |cons x l ih=>show(true&&noDicts (l.map .str))=true;refine O ih ?_;rfl
theorem Bp(l:VT):eqD (.list<|l.map .str) (.list [])=some (decide<|l=[]):=by cases l with
 |nil=>rfl
 |cons x l=>
  rw[Y1 (by simp)];rw[Bv];have:fh (.list<|(x::l).map .str) (.list [])=true:=by unfold fh;rw[show noDict (.list<|(x::l).map .str)=true from D0 _,show noDict (.list [])=true from rfl,Y0 (by show min _ (0+1)<=64;exact(L1 [min (list<|List.map str (x::l)).depth<|(0:Nat)+1] .x (.c 64) .x (.p 1<|.c 0) rfl<|Nat.min_le_right ((list<|List.map str (x::l)).depth)<|(0:Nat)+(1:Nat)))];rfl
  rw[YX this];rfl
theorem u4{hs:List Hd}{op:Str}{t:T}(ho:gQ op=true)(hl:bH op 1=true)(h:eL hs kn d t):eL hs kn (d+1) (.doo op [t]):=.doo ho hl λu hu=>by exact O (mem_singleton.mp hu) h
noncomputable abbrev GC:VT:=[⟨[100,111,119,110].toArray⟩,⟨[102,105,114,115,116].toArray⟩,⟨[114,101,115,116].toArray⟩,⟨[114,101,115,116].toArray⟩,⟨[100,111,119,110].toArray⟩]
theorem yA:GC.all (λw=>(gQ w&&bH w 1)&&dM w [bq,cA,cB])=true:=by kernel_rfl
theorem C5(n:Nat)(p:Int)(kn:VT)(hs:VX)(gs:List Hd):kU (λt=>cF P (n+2) false 21 [.fz<|.int p,.fz<|.list<|kn.map .str,.fz<|.list hs]=some (.ok<|.fz<|bT t,[])) (λt=>eL gs kn 3 t/\Tm kn t):=by
 refine aB (fG n p) λq hq=>?_;obtain⟨d,hd,hv⟩:=A2 n q<|(hs.length:Int).fmod 3;have hn:=Bp kn;by_cases q0:kn=[]\/(p.fdiv 5).fmod 8=0
 .refine⟨.val d,?_,(eL.val hv.1).mono (by decide),.val hv.2⟩;rcases q0 with rfl|q0
  .exact aG [.c 2 hq,.c 5 hd] rfl
  .have b0:((p.fdiv 5).fmod 8==0)=true:=by simpa using q0
   by_cases qn:kn=[]
   .rw[Y0 qn]at hn;exact aG [.c 2 hq,.b 0 hn,.c 4 hd] rfl
   .rw[Y1 qn]at hn;exact aG [.c 2 hq,.b 0 hn,.b 1<|(cD _ _).trans<|Y2 some b0,.c 3 hd] rfl
 .have qn:¬kn=[]:=λh=>q0<|.inl h;have b0:((p.fdiv 5).fmod 8==0)=false:=by(have:¬((p.fdiv 5).fmod 8=0):=λh=>q0<|.inr h);simpa using this
  have hn:=(Y1 qn)▸hn;have lk:(((kn.map str).length:Nat):Int)=(kn.length:Int):=by rw[ZG]
  have l0:=length_pos_iff.mpr qn;refine ak λG g=>?_;obtain⟨x,hx,mx⟩:=cj (M:=kn.map str) (r:=q.fmod kn.length) (fm q kn.length<|Ln [kn.length] (.i (.p 1<|.c 0)<|.n .x) [Gl (.p 1<|.c 0) .x] rfl l0).1 (by refine O lk ?_;exact(fm q kn.length<|Ln [kn.length] (.i (.p 1<|.c 0)<|.n .x) [Gl (.p 1<|.c 0) .x] rfl l0).2);obtain⟨x,mk,rfl⟩:=mem_map.mp mx;have fx:eL gs kn 1 (.nam x):=.nam;have nz:((kn.length:Int)=0)=False:=by simp only[eq_iff_iff,iff_false];exact(λMS=>(Lf [kn.length] [Gl (.p 1<|.c 0) .x,Gj (.n .x)<|.c 0] rfl l0 MS))
  by_cases q3:(p.fdiv 5).fmod 8<3
  .refine g ?_;refine⟨.nam x,?_,fx.mono (by decide),(.nam mk)⟩;exact aG [.c 2 hq,.b 0 hn,.b 1<|(cD _ _).trans<|Y2 some b0,.v 2<|oM (a:=q) lk<|of_eq_false nz,.d 0 hx,.b 0<|tG q3] rfl
  .refine g ?_;refine ak λG1 g1=>?_;obtain⟨w,hw,mw⟩:=cj (M:=GC.map str) (r:=(p.fdiv 5).fmod 8-3) (Li [(p.fdiv (5:Int)).fmod (8:Int)] (.i (.c 0)<|.s .x<|.c 3) [Gi (.c 3) .x] rfl<|Int.not_lt.mp q3) (by show _<(5:Int);exact(Li [(p.fdiv (5:Int)).fmod (8:Int)] (.i (.p 1<|.s .x<|.c 3)<|.c 5) [Gi (.p 1 .x)<|.c 8] rfl ((fm (p.fdiv 5) 8 (by decide))).2));obtain⟨w,mv,rfl⟩:=mem_map.mp mw;have ow:=all_eq_true.mp yA w mv;rw[Z8,Z8]at ow;by_cases q7:(p.fdiv 5).fmod 8=7/\(q.fdiv 7).fmod 3=0
   .refine g1 ?_;have b7:((p.fdiv 5).fmod 8==7)=true:=by simpa using q7.1
    have c7:((q.fdiv 7).fmod 3==0)=true:=by simpa using q7.2
    refine⟨.doo ⟨[114,101,115,116].toArray⟩ [.doo ⟨[114,101,115,116].toArray⟩ [.nam x]],?_,u4 (by kernel_rfl) (by kernel_rfl)<|u4 (by kernel_rfl) (by kernel_rfl) fx,.doo (.tail _<|.head _)<|.doo (.tail _<|.head _)<|.nam mk⟩;exact aG [.c 2 hq,.b 0 hn,.b 1<|(cD _ _).trans<|Y2 some b0,.v 2<|oM (a:=q) lk<|of_eq_false nz,.d 0 hx,.b 0<|jd q3,.d 2 hw,.b 0<|(cD _ _).trans<|Y2 some b7,.b 3<|(cD _ _).trans<|Y2 some c7] rfl
   .refine g1 ?_;refine⟨.doo w [.nam x],?_,(u4 ow.1.1 ow.1.2 fx).mono (by decide),.doo (cL.mp ow.2)<|.nam mk⟩;by_cases r7:(p.fdiv 5).fmod 8=7
    .have b7:((p.fdiv 5).fmod 8==7)=true:=by simpa using r7
     have c7:((q.fdiv 7).fmod 3==0)=false:=by(have:¬((q.fdiv 7).fmod 3=0):=λh=>q7 ⟨r7,h⟩);simpa using this
     exact aG [.c 2 hq,.b 0 hn,.b 1<|(cD _ _).trans<|Y2 some b0,.v 2<|oM (a:=q) lk<|of_eq_false nz,.d 0 hx,.b 0<|jd q3,.d 2 hw,.b 0<|(cD _ _).trans<|Y2 some b7,.b 3<|(cD _ _).trans<|Y2 some c7] rfl
    .have b7:((p.fdiv 5).fmod 8==7)=false:=by simpa using r7
     exact aG [.c 2 hq,.b 0 hn,.b 1<|(cD _ _).trans<|Y2 some b0,.v 2<|oM (a:=q) lk<|of_eq_false nz,.d 0 hx,.b 0<|jd q3,.d 2 hw,.b 0<|(cD _ _).trans<|Y2 some b7] rfl
structure Si(hs:List Hd):Prop where
 ne:hs≠ []
 wn:∀h∈hs,h.wn.length=h.ps.length
 le:∀h∈hs,h.ps.length<=6
noncomputable abbrev sN(l:VT):Slot:=.fz<|.list<|l.map .str
noncomputable abbrev sH(l:List Hd):Slot:=.fz<|.list<|l.map dE
def jj(ns kn:VT)(hs:List Hd)(m e:Nat):Prop:= ∀p:Int,kU (λt=>cF P m false 25 [.fz<|.int p,.fz<|.int e,sN ns,sN kn,sH hs]=some (.ok<|.fz<|bT t,[])) (λt=>eL hs kn (e+4) t)
theorem ie(a b:List T):aZ (a++b)=aZ a++aZ b:=by rw[ic,ic,ic];exact O ZB rfl
theorem cJ(k:Nat)(h:k<=1000):(if -1000000000<=(k:Int)/\(k:Int)<=(Sz:Int) then some (gm 0 (k:Int).toNat) else none)=some ((List.range k).map λ(k:Nat)=>int<|0+k):=by refine O (YX ⟨by exact(Ln [k] (.i (.g<|.c 1000000000)<|.n .x) [] rfl),by show(k:Int)<=16777216;exact(Ln [k] (.i (.n .x)<|.c 16777216) [Gl .x<|.c 1000] rfl h)⟩) ?_;rw[ZU];rfl
theorem tc{hs:List Hd}(hF:jj ns kn hs (m+1) e)(p:Int)(a1:Slot):∀(ks:VS)(VM:List T)(s7:Slot),VM.length+ks.length<=1000->xX (λts=>cm ⟨P.glob,cF P<|m+1,[],false⟩ [.fz<|.int p,a1,.fz<|.int e,sN ns,sN kn,sH hs,.KK<|.list<|aZ VM,s7] (.one 7) y0 [7] (ks.map λ(k:Nat)=>.int<|0+k)=some (.ok .next,[.fz<|.int p,a1,.fz<|.int e,sN ns,sN kn,sH hs,.KK<|.list<|aZ<|VM++ts,.no])) (λts=>ts.length=ks.length) (λts=> ∀t∈ts,eL hs kn (e+4) t):=by intro ks;induction ks with
 |nil=>exact @λVM s7 aa=>⟨[],by refine O Zy ?_;rw[bb,ZO];rfl,rfl,λt h=>by cases h⟩
 |cons k ks IH=>
  intro VM s7 hl;refine ak λG g=>?_;refine aB (fG m<|p+7919*(0+(k:Int))) λq hq=>?_;obtain⟨t,ht,ft⟩:=hF q;obtain⟨ts,ih,sw,hf⟩:=IH (VM++[t]) (.fz<|.int<|0+k) (by simp only[ZI,ZH,length_nil]at *;exact(L1 [VM.length,ks.length] (.a (.a .x<|.p 1<|.c 0) .y) (.c 1000) (.a .x<|.p 1 .y) (.c 1000) rfl hl));refine g ?_;refine⟨t::ts,?_,by exact O ZH<|O ZH<|O sw rfl,λu hu=>?_⟩
  .have hm:=hS (a:=7919) (b:=0+(k:Int)) (by decide);have hz:(aZ VM).length<Sz:=by rw[fi];simp only[ZH]at hl;show VM.length<16777216;exact(L1 [VM.length,ks.length] (.p 1 .x) (.c 16777216) (.a .x<|.p 1 .y) (.c 1000) rfl hl)
   rw[ie,ZP]at ih;exact O Zz<|eM [.v 0 hm,.c 1 hq,.c 0 ht,.t 0<|Y0 hz,.lp 0 ih] rfl
  .rcases mem_cons.mp hu with rfl|hu
   .exact ft
   .exact hf u hu
theorem gZ{hs:List Hd}(hF:jj ns kn hs (m+1) e)(p:Int)(gP:Nat)(hm:gP<=1000):xX (λts=>cF P (m+2) false 22 [.fz<|.int p,.fz<|.int gP,.fz<|.int e,sN ns,sN kn,sH hs]=some (.ok<|.fz<|.tuple<|aZ ts,[])) (λts=>ts.length=gP) (λts=> ∀t∈ts,eL hs kn (e+4) t):=by obtain⟨ts,ih,hl,hf⟩:=tc hF p (.fz<|.int gP) (List.range gP) [] .no (by refine O ZE ?_;show 0+gP<=1000;exact(L1 [gP] (.a (.c 0) .x) (.c 1000) .x (.c 1000) rfl hm));rw[Zq,show aZ []=[] from rfl]at ih;refine⟨ts,?_,by exact O hl<|O ZE rfl,hf⟩;exact aG [.l 0<|(bD _).trans<|cJ gP hm,.lp 0 ih] rfl
theorem sK(l:List Bool)(k:Nat)(h:k<l.length):bf (l.map PyData.bool) (0+(k:Int))=some (.bool<|l.getD k false):=by unfold bf;rw[ZR,YX<|ZV _,ZU,ZJ,ZN];refine O (ZK h) ?_;rfl
abbrev PW(kn:VT)(ts:List T)(bs:List Bool):Prop:= ∀p∈ts.zip bs,p.2=true->Tm kn p.1
theorem PW.cons{kn:VT}{t:T}{ts:List T}{b:Bool}{bs:List Bool}(h:b=true->Tm kn t)(r:PW kn ts bs):PW kn (t::ts) (b::bs):=λp hp=>by
 rcases mem_cons.mp hp with rfl|hp
 .exact h
 .exact r p hp
theorem N7(l:List Bool):(List.range l.length).map (λk=>l.getD k false)=l:=by refine List.ext_getElem (by rw[ZG];exact O ZE rfl) λi h1 h2=>?_;rw[List.getElem_map,getElem_range,ZN];refine O (ZK h2) ?_;rfl
theorem xL{hs:List Hd}(hF:jj ns kn hs (m+2) e)(p:Int)(h:Hd):∀(ks:VS)(VM:List T)(s7 s8:Slot),(∀k∈ks,k<h.wn.length)->VM.length+ks.length<=1000->Pv (λts=>cm ⟨P.glob,cF P<|m+2,[],false⟩ [.fz<|.int p,.fz<|.int e,sN ns,sN kn,sH hs,.fz<|dE h,.KK<|.list<|aZ VM,s7,s8] (.one 7) Hv [7,8] (ks.map λ(k:Nat)=>.int<|0+k)=some (.ok .next,[.fz<|.int p,.fz<|.int e,sN ns,sN kn,sH hs,.fz<|dE h,.KK<|.list<|aZ<|VM++ts,.no,.no])) (λts=>ts.length=ks.length) (λts=> ∀t∈ts,eL hs kn (e+4) t) (λts=>PW kn ts<|ks.map λk=>h.wn.getD k false):=by intro ks;induction ks with
 |nil=>exact @λVM s7 s8 aa ai=>⟨[],by refine O Zy ?_;rw[bb,ZO];rfl,rfl,(λt h=>by cases h),λp hp=>by cases hp⟩
 |cons k ks IH=>
  intro VM s7 s8 hw hl;refine ak λG g=>?_;refine aB (fG (m+1)<|p+7919*(0+(k:Int))) λq hq=>?_;have hb:=sK h.wn k<|hw k Zt;have Rh:∀b,h.wn.getD k false=b->(k::ks).map (λk=>h.wn.getD k false)=b::ks.map λk=>h.wn.getD k false:=λb e=>by exact O Zz<|O e rfl
  generalize h.wn.getD k false=b at hb Rh;have hz:(aZ VM).length<Sz:=by rw[fi];simp only[ZH]at hl;show VM.length<16777216;exact(L1 [VM.length,ks.length] (.p 1 .x) (.c 16777216) (.a .x<|.p 1 .y) (.c 1000) rfl hl)
  have cC:∀t:T,(VM++[t]).length+ks.length<=1000:=λt=>by simp only[ZI,ZH,length_nil]at *;exact(L1 [VM.length,ks.length] (.a (.a .x<|.p 1<|.c 0) .y) (.c 1000) (.a .x<|.p 1 .y) (.c 1000) rfl hl)
  cases b with
  |true=>
   refine g ?_;refine O (Rh _ rfl) ?_;obtain⟨t,ht,Q⟩:=C5 m q kn (hs.map dE) hs;obtain⟨ts,ih,sw,hf,JP⟩:=IH (VM++[t]) (.fz<|.int<|0+k) (.fz<|.int q) (eA hw)<|cC t;refine⟨t::ts,?_,by exact O ZH<|O ZH<|O sw rfl,λu hu=>?_,.cons (λaa=>Q.2) JP⟩
   .rw[ie,ZP]at ih;exact O Zz<|eM [.v 0<|(hS (a:=7919) (b:=0+(k:Int)) (by decide)),.c 1 hq,.d 1 hb,.c 1 ht,.t 0<|Y0 hz,.lp 0 ih] rfl
   .rcases mem_cons.mp hu with rfl|hu
    .exact Q.1.mono (L0 [e] (.c 3) (.p 4 .x) rfl)
    .exact hf u hu
  |false=>
   refine g ?_;refine O (Rh _ rfl) ?_;obtain⟨t,ht,ft⟩:=hF q;obtain⟨ts,ih,sw,hf,JP⟩:=IH (VM++[t]) (.fz<|.int<|0+k) (.fz<|.int q) (eA hw)<|cC t;refine⟨t::ts,?_,by rw[ZH,ZH,sw],λu hu=>?_,.cons (λe=>noConfusion e) JP⟩
   .rw[ie,ZP]at ih;exact O Zz<|eM [.v 0<|(hS (a:=7919) (b:=0+(k:Int)) (by decide)),.c 1 hq,.d 1 hb,.c 1 ht,.t 0<|Y0 hz,.lp 0 ih] rfl
   .rcases mem_cons.mp hu with rfl|hu
    .exact ft
    .exact hf u hu
theorem FV{hs:List Hd}(hF:jj ns kn hs (m+2) e)(hh:Si hs)(p:Int):kU (λt=>cF P (m+3) false 23 [.fz<|.int p,.fz<|.int e,sN ns,sN kn,sH hs]=some (.ok<|.fz<|bT t,[])) (λt=>eL hs kn (e+5) t):=by
 have lk:(((hs.map dE).length:Nat):Int)=(hs.length:Int):=by rw[ZG]
 have nz:((hs.length:Int)=0)=False:=by simp only[eq_iff_iff,iff_false];exact(λzS=>(Lf [hs.length] [Gl (.p 1<|.c 0) .x,Gj (.n .x)<|.c 0] rfl (length_pos_iff.mpr hh.ne) zS))
 have hm:=fm p hs.length<|Ln [hs.length] (.i (.p 1<|.c 0)<|.n .x) [Gl (.p 1<|.c 0) .x] rfl<|length_pos_iff.mpr hh.ne;refine ak λG g=>?_;obtain⟨x,hx,mx⟩:=cj (M:=hs.map dE) (r:=p.fmod hs.length) hm.1 (by refine O lk ?_;exact hm.2);refine ak λG1 g1=>?_;obtain⟨h,mh,rfl⟩:=mem_map.mp mx;obtain⟨ts,ih,hl,hf,hz⟩:=xL hF p h (List.range h.ps.length) [] .no .no (λk hk=>by refine O (hh.wn h mh) ?_;exact mem_range.mp hk) (by refine O ZE ?_;show 0+h.ps.length<=1000;exact(L1 [h.ps.length] (.a (.c 0) .x) (.c 1000) .x (.c 6) rfl<|hh.le h mh));rw[Zq,show aZ []=[] from rfl]at ih;rw[ZE]at hl;refine g1 ?_;refine g ?_;refine⟨.call h.nm ts,?_,eL.call mh (hl.trans (hh.wn h mh).symm) (by rw[<- hh.wn h mh,N7]at hz;exact hz) hf⟩;have lp:(((h.ps.map str).length:Nat):Int)=(h.ps.length:Int):=by rw[ZG]
 exact aG [.v 1<|oM (a:=p) lk<|of_eq_false nz,.d 0 hx,.l 2 (show b4 gM.range [int (↑(List.map str h.ps).length:Int)]=some (List.map (λ(k:Nat)=>int<|(0:Int)+(↑k:Int))<|List.range h.ps.length) from lp▸(bD _).trans (cJ h.ps.length<|L1 [h.ps.length] .x (.c 1000) .x (.c 6) rfl<|hh.le h mh)),.lp 0 ih] rfl
noncomputable abbrev Ox:VT:=[fQ,fJ,eG,eY,gC,gB,fR,bq,cA,bn,cB,aX]
noncomputable abbrev KI:VT:=[bq,cA,bn,cB]
noncomputable def TK(w:Str):Bool:=gQ w&&(if dM w KI then bH w 1 && !decide (w=aX) else if w=aX then true else bH w 2)
theorem KH:Ox.all TK=true:=by kernel_rfl
theorem AB(x:Str):EG (.str x) (.tuple [(S [102,105,114,115,116]),(S [114,101,115,116]),(S [101,109,112,116,121]),(S [100,111,119,110])])=some (dM x KI):=k7 x KI
theorem Ot{hs:List Hd}(hF:jj ns kn hs (m+1) e)(Vb:jj ns kn hs (m+1) 0)(p:Int):kU (λt=>cF P (m+3) false 24 [.fz<|.int p,.fz<|.int e,sN ns,sN kn,sH hs]=some (.ok<|.fz<|bT t,[])) (λt=>eL hs kn (e+5) t):=by refine ak λG1 g1=>?_;obtain⟨x,hx,mx⟩:=cj (M:=Ox.map str) (r:=p.fmod 12) (fm p 12 (by decide)).1 (fm p 12 (by decide)).2;refine ak λG4 g4=>?_;refine aB (mem_map.mp mx) λw Q=>?_;obtain rfl:=Q.2;have hx:=hx;have hw:=all_eq_true.mp KH w Q.1;have h4:=AB w;refine aB (fG (m+1) p) λq hq=>?_;unfold TK at hw;rw[Z8]at hw;cases q4:dM w KI with
 |true=>
  refine g4 ?_;refine g1 ?_;rw[q4]at h4 hw;simp only[if_true,Z8,Z6,decide_eq_false_iff_not]at hw;refine ak λG g=>?_;obtain⟨ts,ht,hl,hf⟩:=gZ hF q 1 (by decide);refine g ?_;refine⟨.doo w ts,?_,eL.doo hw.1 (by refine O hl ?_;exact hw.2.1) hf⟩;have nl:(w=aX)=False:=by simp only[eq_iff_iff,iff_false];exact hw.2.2
  exact aG [.d 1 hx,.b 0 h4,.b 1<|Mp<|of_eq_false nl,.c 3 hq,.c 0 ht] rfl
 |false=>
  refine g4 ?_;refine g1 ?_;rw[q4]at h4 hw;simp only[false_eq_true,if_false]at hw;by_cases ql:w=aX
  .have tl:(w=aX)=True:=by simp only[ql]
   refine ak λG2 g2=>?_;obtain⟨y,hy,my⟩:=cj (M:=([0,1,2,3,8,5,1,2]:VS).map λ(k:Nat)=>int k) (r:=(p.fdiv 12).fmod 8) (fm (p.fdiv 12) 8 (by decide)).1 (fm (p.fdiv 12) 8 (by decide)).2;refine ak λG3 g3=>?_;refine aB (mem_map.mp my) λk z=>?_;cases z.2;have mk:=z.1;have k8:k<=8:=by simp only[Zv,Zp,or_false]at mk;omega
   have tk:bH w k=true:=by unfold bH;exact O (YX ql)<|O (Y0 (by exact(Ln [k] (.i (.n .x)<|.c 8) [Gl .x<|.c 8] rfl k8))) rfl
   by_cases q3:(3:Int)<k
   .refine g3 ?_;refine g2 ?_;obtain⟨ts,ht,hl,hf⟩:=gZ Vb q k<|L1 [k] .x (.c 1000) .x (.c 8) rfl k8;refine⟨.doo w ts,?_,(eL.doo hw.1 (by refine O hl ?_;exact tk) hf).mono<|L0 [e] (.p 1<|.p 4<|.c 0) (.p 5 .x) rfl⟩;exact aG [.d 1 hx,.b 0 h4,.b 1<|Mo<|of_eq_true tl,.d 3 hy,.b 0<|Ka q3,.c 1 hq,.c 0 ht] rfl
   .refine g3 ?_;refine g2 ?_;obtain⟨ts,ht,hl,hf⟩:=gZ hF q k<|L1 [k] .x (.c 1000) .x (.c 8) rfl k8;refine⟨.doo w ts,?_,eL.doo hw.1 (by refine O hl ?_;exact tk) hf⟩;exact aG [.d 1 hx,.b 0 h4,.b 1<|Mo<|of_eq_true tl,.d 3 hy,.b 0<|N5 q3,.c 1 hq,.c 0 ht] rfl
  .rw[YY ql]at hw;have nl:(w=aX)=False:=by simp only[eq_iff_iff,iff_false];exact ql
   obtain⟨ts,ht,hl,hf⟩:=gZ hF q 2 (by decide);refine⟨.doo w ts,?_,eL.doo hw.1 (by refine O hl ?_;exact hw.2) hf⟩;exact aG [.d 1 hx,.b 0 h4,.b 1<|Mp<|of_eq_false nl,.c 3 hq,.c 0 ht] rfl
theorem nJ{hs:List Hd}(m e:Nat)(p:Int)(h:e=0\/(p.fdiv 3).fmod 13<3):kU (λt=>cF P (m+2) false 25 [.fz<|.int p,.fz<|.int e,sN ns,sN kn,sH hs]=some (.ok<|.fz<|bT t,[])) (λt=>eL hs kn 1 t):=by
 refine aB (fG m p) λq hq=>?_;obtain⟨d,hd,hv⟩:=yq m<|q.fdiv 4;have hn:=Bp ns;have Q1:∀(Id dl:Option (VW Rv×List Slot)),True:=λaa ai=>trivial;have key:((e:Int)==0)=true\/(((e:Int)==0)=false/\(p.fdiv 3).fmod 13<3):=by
  by_cases q0:e=0
  .left;subst q0;rfl
  .right;refine⟨?_,h.resolve_left q0⟩;have:¬((e:Int)=0):=by exact(λGJ=>(Or.elim (Nat.lt_or_gt_of_ne q0) (λzM=>(Lf [e] [Gk (.n .x)<|.c 0,Gl (.p 1 .x)<|.c 0] rfl GJ zM)) (λzM=>(Lf [e] [Gj (.n .x)<|.c 0,Gl (.p 1<|.c 0) .x] rfl GJ zM))))
   simpa using this
 by_cases qn:ns=[]
 .have hn:=(Y0 qn)▸hn;refine⟨.val d,?_,.val hv⟩;rcases key with k0|⟨k0,k3⟩
  .exact aG [.c 2 hq,.b 0<|(cD _ _).trans<|Y2 some k0,.b 2<|(mn _ _).trans<|Y2 (Option.map (!·)) hn,.c 3 hd] rfl
  .exact aG [.c 2 hq,.b 0<|(cD _ _).trans<|Y2 some k0,.b 1<|tG k3,.b 1<|(mn _ _).trans<|Y2 (Option.map (!·)) hn,.c 3 hd] rfl
 .have hn:=(Y1 qn)▸hn;have lk:(((ns.map str).length:Nat):Int)=(ns.length:Int):=by rw[ZG]
  have nz:((ns.length:Int)=0)=False:=by simp only[eq_iff_iff,iff_false];exact(λzR=>(Lf [ns.length] [Gl (.p 1<|.c 0) .x,Gj (.n .x)<|.c 0] rfl (length_pos_iff.mpr qn) zR))
  refine ak λG g=>?_;obtain⟨x,hx,mx⟩:=cj (M:=ns.map str) (r:=(q.fdiv 4).fmod ns.length) (fm (q.fdiv 4) ns.length<|Ln [ns.length] (.i (.p 1<|.c 0)<|.n .x) [Gl (.p 1<|.c 0) .x] rfl<|length_pos_iff.mpr qn).1 (by refine O lk ?_;exact(fm (q.fdiv 4) ns.length<|Ln [ns.length] (.i (.p 1<|.c 0)<|.n .x) [Gl (.p 1<|.c 0) .x] rfl<|length_pos_iff.mpr qn).2);refine aB (mem_map.mp mx) λx Q=>?_;obtain rfl:=Q.2;have mk:=Q.1;by_cases q4:0<q.fmod 4
  .refine g ?_;refine⟨.nam x,?_,.nam⟩;rcases key with k0|⟨k0,k3⟩
   .exact aG [.c 2 hq,.b 0<|(cD _ _).trans<|Y2 some k0,.b 2<|(mn _ _).trans<|Y2 (Option.map (!·)) hn,.b 2<|Ka q4,.v 3<|oM (a:=(q.fdiv (4:Int))) lk<|of_eq_false nz,.d 0 hx] rfl
   .exact aG [.c 2 hq,.b 0<|(cD _ _).trans<|Y2 some k0,.b 1<|tG k3,.b 1<|(mn _ _).trans<|Y2 (Option.map (!·)) hn,.b 2<|Ka q4,.v 3<|oM (a:=(q.fdiv (4:Int))) lk<|of_eq_false nz,.d 0 hx] rfl
  .refine g ?_;refine⟨.val d,?_,.val hv⟩;rcases key with k0|⟨k0,k3⟩
   .exact aG [.c 2 hq,.b 0<|(cD _ _).trans<|Y2 some k0,.b 2<|(mn _ _).trans<|Y2 (Option.map (!·)) hn,.b 2<|N5 q4,.c 2 hd] rfl
   .exact aG [.c 2 hq,.b 0<|(cD _ _).trans<|Y2 some k0,.b 1<|tG k3,.b 1<|(mn _ _).trans<|Y2 (Option.map (!·)) hn,.b 2<|N5 q4,.c 2 hd] rfl
theorem f7{hs:List Hd}(hh:Si hs):∀(e m:Nat),3*e+3<=m->jj ns kn hs m e
 |0=>@λm hm p=>by
  obtain⟨k,rfl⟩:∃k,m=k+2:=⟨m-2,by exact(Zk (Ln [m,m-2] (.w .x<|.p 2 .y) [Gf (.p 2 .y) .x] rfl<|Za (n:=m) (m:=2)<|L1 [m] (.c 2) .x (.p 3<|.m 3<|.c 0) .x rfl hm)<|Ln [m-2,m] (.w (.p 2 .x) .y) [Ge (.p 2 .x) .y] rfl<|Za (n:=m) (m:=2)<|L1 [m] (.c 2) .x (.p 3<|.m 3<|.c 0) .x rfl hm)⟩
  obtain⟨t,a,b⟩:=nJ (ns:=ns) (kn:=kn) (hs:=hs) k 0 p<|.inl rfl;exact⟨t,a,b.mono<|L0 [] (.c 1) (.p 4<|.c 0) rfl⟩
 |e+1=>@λm hm p=>by
  obtain⟨k,rfl⟩:∃k,m=k+4:=⟨m-4,by exact(Zk (Ln [m,m-4] (.w .x<|.p 4 .y) [Gf (.p 4 .y) .x] rfl<|Za (n:=m) (m:=4)<|L1 [m,e] (.c 4) .x (.p 3<|.m 3<|.p 1 .y) .x rfl hm)<|Ln [m-4,m] (.w (.p 4 .x) .y) [Ge (.p 4 .x) .y] rfl<|Za (n:=m) (m:=4)<|L1 [m,e] (.c 4) .x (.p 3<|.m 3<|.p 1 .y) .x rfl hm)⟩
  by_cases q3:(p.fdiv 3).fmod 13<3
  .obtain⟨t,a,b⟩:=nJ (ns:=ns) (kn:=kn) (hs:=hs) (k+2) (e+1) p<|.inr q3;exact⟨t,a,b.mono<|L0 [e] (.c 1) (.p 4<|.p 1 .x) rfl⟩
  have k0:=Ub e;have ee:((e+1:Nat):Int)-1=(e:Int):=by exact(ZX (Ln [e] (.i (.s (.n<|.p 1 .x)<|.c 1)<|.n .x) [] rfl)<|Ln [e] (.i (.n .x)<|.s (.n<|.p 1 .x)<|.c 1) [] rfl)
  refine aB (fG (k+2) p) λq hq=>?_;by_cases q6:(p.fdiv 3).fmod 13<6
  .obtain⟨ts,ht,hl,hf⟩:=gZ (ns:=ns) (m:=k+1) (f7 hh e (k+2)<|L1 [e,k] (.p 3<|.m 3 .x) (.p 2 .y) (.p 3<|.m 3<|.p 1 .x) (.p 4 .y) rfl hm) q 3 (by decide);have ht:cF P (k+3) false 22 [.fz<|.int q,.fz<|.int 3,.fz<|.int e,sN ns,sN kn,sH hs]=some (.ok<|.fz<|.tuple<|aZ ts,[]):=ht;refine⟨.iff ts,?_,eL.iff hl hf⟩;have hz:([S [105,102]]:VX).length+(aZ ts).length<=Sz:=by rw[fi];refine O hl ?_;decide
   rw[<- ee]at ht;exact aG [.c 2 hq,.b 2<|jd q3,.b 1<|tG q6,.c 2 ht,.v 0 (show op2 Cr.add (tuple [str {cps:=#[(105:Nat),(102:Nat)]}]) (tuple<|aZ ts)=some (Rv.fz<|tuple<|[str {cps:=#[(105:Nat),(102:Nat)]}]++aZ ts) by simp only[zp,eq_true hz,if_true])] rfl
  by_cases q9:(p.fdiv 3).fmod 13<9
  .refine ak λG g=>?_;obtain⟨t,ht,hf⟩:=Ot (ns:=ns) (m:=k) (f7 hh e (k+1)<|L1 [e,k] (.p 3<|.m 3 .x) (.p 1 .y) (.p 3<|.m 3<|.p 1 .x) (.p 4 .y) rfl hm) (f7 hh 0 (k+1)<|L1 [k,e] (.p 3<|.m 3<|.c 0) (.p 1 .x) (.p 3<|.m 3<|.p 1 .y) (.p 4 .x) rfl hm) q;refine g ?_;refine⟨t,?_,hf⟩;rw[<- ee]at ht;exact aG [.c 2 hq,.b 2<|jd q3,.b 1<|jd q6,.b 1<|tG q9,.c 2 ht] rfl
  by_cases SR:(p.fdiv 3).fmod 13<12
  .obtain⟨t,ht,hf⟩:=FV (ns:=ns) (m:=k) (f7 hh e (k+2)<|L1 [e,k] (.p 3<|.m 3 .x) (.p 2 .y) (.p 3<|.m 3<|.p 1 .x) (.p 4 .y) rfl hm) hh q;refine⟨t,?_,hf⟩;rw[<- ee]at ht;exact aG [.c 2 hq,.b 2<|jd q3,.b 1<|jd q6,.b 1<|jd q9,.b 1<|tG SR,.c 2 ht] rfl
  have h6:=fm q 6 (by decide);refine ak λG1 g1=>?_;obtain⟨x,hx,mx⟩:=cj (M:=sJ.map str) (r:=q.fmod 6) h6.1 h6.2;refine aB (mem_map.mp mx) λx Q=>?_;obtain rfl:=Q.2;refine g1 ?_;refine⟨.ref x,?_,eL.ref.mono<|L0 [e] (.c 1) (.p 4<|.p 1 .x) rfl⟩;exact aG [.c 2 hq,.b 2<|jd q3,.b 1<|jd q6,.b 1<|jd q9,.b 1<|jd SR,.d 2 hx] rfl
theorem zC(nd:l.Nodup){j:Nat}(hi:i<l.length)(hj:j<l.length)(h:i≠j):l.getD i ⟨#[]⟩≠l.getD j ⟨#[]⟩:=by
 refine O ZN<|O ZN<|O (ZK hi)<|O (ZK hj) ?_;have q:=List.pairwise_iff_getElem.mp nd;show l[i]≠l[j]
 rcases Nat.lt_or_gt_of_ne h with wZ|wZ
 .exact q _ _ hi hj wZ
 .exact λe=>q _ _ hj hi wZ e.symm
theorem vt(hi:i<l.length):l.getD i ⟨#[]⟩∈l:=by exact O ZN<|O (ZK hi)<|getElem_mem hi
theorem lb(hi:i<l.length):bf (l.map str) (i:Int)=some (.str<|l.getD i ⟨#[]⟩):=by unfold bf;rw[YX<|ZV _,ZU,ZJ,ZN];refine O (ZK hi) ?_;rfl
structure Lw(l:VT)(h:Hd):Prop where
 wn:h.wn.length=h.ps.length
 le:h.ps.length<=6
 nd:h.ps.Nodup
 mem:∀x∈h.ps,x∈l
 kt:h.wn.count true<=2
noncomputable abbrev SU:Ex:=.idx (ae 1)<|.op2 .mod (.op2 .add Ft<|ae 9) ma
noncomputable abbrev DO(l:VT)(k:Nat)(js:VS):VT:=js.map λj=>l.getD ((2+k+j) % 12) ⟨#[]⟩
theorem uU(n:Nat)(l:VT)(hl:l.length=12)(k:Nat)(a0 a2 a4 a5 a6 a7 a8:Slot):∀(js:VS)(s9:Slot),bB ⟨P.glob,cF P n,[],false⟩ [a0,sN l,a2,.fz<|.int<|0+k,a4,a5,a6,a7,a8,s9] SU (.one 9) [] (js.map λ(j:Nat)=>.int<|0+j)=some (.ok<|(DO l k js).map .str,[a0,sN l,a2,.fz<|.int<|0+k,a4,a5,a6,a7,a8,.no]):=by intro js;induction js with
 |nil=>exact @λs9=>by refine O Zy ?_;rw[aL];rfl
 |cons j js IH=>
  intro s9;have hx:bf (l.map str) ((2+(0+(k:Int))+(0+(j:Int))).fmod 12)=some (.str<|l.getD ((2+k+j) % 12) ⟨#[]⟩):=by
   have e:(2+(0+(k:Int))+(0+(j:Int))).fmod 12=(((2+k+j) % 12:Nat):Int):=by refine O (Int.fmod_eq_emod_of_nonneg _ (by decide)) ?_;rw[ZR,ZR,Int.natCast_emod,natCast_add,natCast_add];rfl
   exact O e<|lb (by refine O hl ?_;exact mod_lt _ (by decide))
  exact O Zz<|jS [.d 3 hx,.cp 0<|(IH<|.fz<|.int<|0+j)] rfl
theorem xN:∀l:List Bool,gG (l.map .bool)=some l:=by intro l;induction l with
 |nil=>exact rfl
 |cons b l ih=>
  show(gG<|l.map .bool).map _=_
  refine O ih ?_;rfl
theorem FQ{VM:List Bool}(h:VM.count true<=2):(VM++[decide<|((VM.count true:Nat):Int)<2]).count true<=2:=by
 refine O List.count_append ?_;by_cases q:((VM.count true:Nat):Int)<2
 .exact O (Y0 q) (Nat.succ_le_of_lt<|ofNat_lt.mp q)
 .exact O (Y1 q) h
theorem CO(n:Nat)(c:Int)(a0 a1 a2 a3 a5 a9:Slot):∀(js:VS)(VM:List Bool)(s7 s8:Slot),(∀j∈js,j<6)->VM.length+js.length<=1000->xX (λbs=>cm ⟨P.glob,cF P n,[],false⟩ [a0,a1,a2,a3,.fz<|.int c,a5,.KK<|.list<|VM.map .bool,s7,s8,a9] (.one 7) Pz [7,8] (js.map λ(j:Nat)=>.int<|0+j)=some (.ok .next,[a0,a1,a2,a3,.fz<|.int c,a5,.KK<|.list<|(VM++bs).map .bool,.no,.no,a9])) (λbs=>bs.length=js.length) (λbs=>VM.count true<=2->(VM++bs).count true<=2):=by intro js;induction js with
 |nil=>exact @λVM s7 s8 aa ai=>⟨[],by refine O Zy ?_;rw[bb,ZO];rfl,rfl,λh=>by rw[ZO];exact h⟩
 |cons j js IH=>
  intro VM s7 s8 hj hl;refine ak λG g=>?_;obtain⟨y,hy,my⟩:=cj (M:=[int 7,.int 14,.int 28,.int 56,.int 112,.int 224]) (r:=0+(j:Int)) (Ln [j] (.i (.c 0)<|.a (.c 0)<|.n .x) [] rfl) (by show _<(6:Int);exact(Ln [j] (.i (.p 1<|.a (.c 0)<|.n .x)<|.c 6) [Gl (.p 1 .x)<|.c 6] rfl<|hj j Zt));have:∃z:Int,y = .int z/\(z≠0/\z.natAbs<2 ^ 64):=by simp only[Zv,Zp,or_false]at my;rcases my with rfl|rfl|rfl|rfl|rfl|rfl<;>exact⟨_,rfl,by decide,by decide⟩
  refine ak λG1 g1=>?_;obtain⟨z,this⟩:=this;obtain rfl:=this.1;have hsz:(VM.map PyData.bool).length<Sz:=by rw[ZG];simp only[ZH]at hl;show VM.length<16777216;exact(L1 [VM.length,js.length] (.p 1 .x) (.c 16777216) (.a .x<|.p 1 .y) (.c 1000) rfl hl)
  have cC:∀b:Bool,(VM++[b]).length+js.length<=1000:=λb=>by simp only[ZI,ZH,length_nil]at *;exact(L1 [VM.length,js.length] (.a (.a .x<|.p 1<|.c 0) .y) (.c 1000) (.a .x<|.p 1 .y) (.c 1000) rfl hl)
  by_cases qb:(c.fdiv z).fmod 2=1
  .refine g1 ?_;refine g ?_;obtain⟨bs,ih,hb,h2⟩:=IH (VM++[decide<|((VM.count true:Nat):Int)<2]) (.fz<|.int<|0+j) (.fz<|.bool true) (eA hj)<|cC _;refine⟨decide (((VM.count true:Nat):Int)<2)::bs,?_,by refine O ZH ?_;refine O ZH ?_;rw[hb],λh=>?_⟩;rotate_left
   .rw[ZP]at h2;exact h2<|FQ h
   rw[ZB,ZP]at ih;exact eM [.d 0 hy,.v 0 (show op2 Cr.fdiv (int c) (int z)=some (Rv.fz<|int<|c.fdiv z) from TH this.2),.b 1<|eqT qb,.v 1 (show jm Bi.count [list<|List.map PyData.bool VM,PyData.bool true]=some (Rv.fz<|int (↑(List.count true VM):Int)) by simp only[F8,(xN VM),Option.map_some]),.b 0 (show aI Cm.lt (int (↑(List.count true VM):Int)) (int (2:Int))=some (decide<|(↑(List.count true VM):Int)<(2:Int)) by simp only[uz]),.t 0<|Y0 hsz,.lp 0 ih] rfl
  .refine g1 ?_;refine g ?_;obtain⟨bs,ih,hb,h2⟩:=IH (VM++[false]) (.fz<|.int<|0+j) (.fz<|.bool false) (eA hj)<|cC _;refine⟨false::bs,?_,by refine O ZH ?_;refine O ZH ?_;rw[hb],λh=>?_⟩;rotate_left
   .rw[ZP]at h2;exact h2 (by refine O List.count_append ?_;exact h)
   rw[ZB,ZP]at ih;exact eM [.d 0 hy,.v 0 (show op2 Cr.fdiv (int c) (int z)=some (Rv.fz<|int<|c.fdiv z) from TH this.2),.b 1<|L6 qb,.t 1<|Y0 hsz,.lp 0 ih] rfl
noncomputable abbrev GY:List St:=[.asg (.one 4)<|.call 15 [ae 0,Ft],
   .asg (.one 5) Oq,
   .asg (.one 6) (.list []),
   .for_ (.one 7) .range [ae 5] Pz [7,8],
   .app (.var 2) (.tup [.idx (ae 1)<|ae 3,.bi .tuple [(.comp SU (.one 9) .range [ae 5] [])],Fu])]
theorem w5(n:Nat)(M:List Int)(l:VT)(hn:iK l):∀(ks:VS)(VM:List Hd)(s1 s3 s4 s5 s6 s7 s8 s9:Slot),(s1 = .KK (.list<|l.map .str)\/s1=sN l)->(∀k∈ks,k<12)->VM.length+ks.length<=1000->LA (λhs yQ=>cm ⟨P.glob,cF P<|n+1,[],false⟩ [.fz<|.list<|M.map .int,s1,.KK<|.list<|VM.map dE,s3,s4,s5,s6,s7,s8,.no] (.one 3) GY [3,4,5,6,7,8] (ks.map λ(k:Nat)=>.int<|0+k)=some (.ok .next,[.fz<|.list<|M.map .int,yQ,.KK<|.list<|(VM++hs).map dE,.no,.no,.no,.no,.no,.no,.no])) (λhs yQ=>hs.map (·.nm)=(ks.map λk=>l.getD k ⟨#[]⟩)) (λhs yQ=> ∀h∈hs,Lw l h):=by intro ks;induction ks with
 |nil=>exact @λVM s1 s3 s4 s5 s6 s7 s8 s9 h1 aa ai=>⟨[],s1,by refine O Zy ?_;rw[bb,ZO];rfl,rfl,λt h=>by cases h⟩
 |cons k ks IH=>
  intro VM s1 s3 s4 s5 s6 s7 s8 s9 h1 hk hl;refine ak λG g=>?_;refine aB (cell n M (2+(0+(k:Int)))<|Ln [k] (.i (.c 0)<|.a (.c 2)<|.a (.c 0)<|.n .x) [] rfl) λc hc=>?_;refine ak λG1 g1=>?_;obtain⟨y,hy,my⟩:=cj (M:=([1,2,3,2,0,6,3]:VS).map λ(k:Nat)=>int k) (r:=c.fmod 7) (fm c 7 (by decide)).1 (fm c 7 (by decide)).2;refine ak λG2 g2=>?_;refine aB (mem_map.mp my) λm Q=>?_;obtain rfl:=Q.2;have mm:=Q.1;have m6:m<=6:=by simp only[Zv,Zp,or_false]at mm;omega
  have hr:=cJ m<|L1 [m] .x (.c 1000) .x (.c 6) rfl m6;have hx:bf (l.map str) (0+(k:Int))=some (.str<|l.getD k ⟨#[]⟩):=by rw[ZR];exact lb (by refine O hn.len ?_;exact(hk k Zt))
  have hsz:(VM.map dE).length<Sz:=by rw[ZG];simp only[ZH]at hl;show VM.length<16777216;exact(L1 [VM.length,ks.length] (.p 1 .x) (.c 16777216) (.a .x<|.p 1 .y) (.c 1000) rfl hl)
  have wl:∀a1 a2 a9, ∃bs:List Bool,cm ⟨P.glob,cF P<|n+1,[],false⟩ [.fz<|.list<|M.map .int,a1,a2,.fz<|.int<|0+k,.fz<|.int c,.fz<|.int m,.KK<|.list [],.no,.no,a9] (.one 7) Pz [7,8] ((List.range m).map λ(j:Nat)=>.int<|0+j)=some (.ok .next,[.fz<|.list<|M.map .int,a1,a2,.fz<|.int<|0+k,.fz<|.int c,.fz<|.int m,.KK<|.list<|bs.map .bool,.no,.no,a9])/\bs.length=(List.range m).length/\bs.count true<=2:=λa1 a2 a9=>let ⟨bs,q1,q2,q3⟩:=CO (n+1) c (.fz<|.list<|M.map .int) a1 a2 (.fz<|.int<|0+k) (.fz<|.int m) a9 (List.range m) [] .no .no (λj hj=>by have:=mem_range.mp hj;exact(Ln [j,m] (.w (.p 1 .x)<|.c 6) [Gl .y<|.c 6,Gl (.p 1 .x) .y] rfl m6 this)) (by refine O ZE ?_;show 0+m<=1000;exact(L1 [m] (.a (.c 0) .x) (.c 1000) .x (.c 6) rfl m6));⟨bs,q1,q2,q3<|Y7 _⟩
  refine aB (wl s1 (.KK<|.list<|VM.map dE) .no) λbs q=>?_;have hok:Lw l ⟨l.getD k ⟨#[]⟩,DO l k<|List.range m,bs⟩:=by
   refine⟨by refine O q.2.1 ?_;rw[ZG],by rw[ZG];refine O ZE ?_;exact m6,?_,λx hx=>?_,q.2.2⟩
   .refine pairwise_map.mpr (Pairwise.imp_of_mem ?_ List.pairwise_lt_range);intro a b ha hb Rj;have ha:=mem_range.mp ha;have hb:=mem_range.mp hb;exact zC hn.nd (by refine O hn.len ?_;exact mod_lt _ (by decide)) (by refine O hn.len ?_;exact mod_lt _ (by decide)) (by omega)
   .obtain⟨j,_,rfl⟩:=mem_map.mp hx;exact vt (by refine O hn.len ?_;exact mod_lt _ (by decide))
  obtain⟨hs,yQ,ih,hm,hf⟩:=IH (VM++[⟨l.getD k ⟨#[]⟩,DO l k<|List.range m,bs⟩]) (sN l) (.fz<|.int<|0+k) (.fz<|.int c) (.fz<|.int m) (.KK<|.list<|bs.map .bool) .no .no .no (.inr rfl) (eA hk) (by simp only[ZI,ZH,length_nil]at *;exact(L1 [VM.length,ks.length] (.a (.a .x<|.p 1<|.c 0) .y) (.c 1000) (.a .x<|.p 1 .y) (.c 1000) rfl hl));refine g2 ?_;refine g1 ?_;refine g ?_;refine⟨⟨l.getD k ⟨#[]⟩,DO l k<|List.range m,bs⟩::hs,yQ,?_,by exact O Zz<|O Zz<|O hm rfl,λh hh=>?_⟩
  .rw[ZB,ZP]at ih;refine O Zz ?_;rcases h1 with rfl|rfl
   .exact eM [.c 1 hc,.d 1 hy,.l 0 (show b4 gM.range [int (↑m:Int)]=some (List.map (λ(k:Nat)=>int<|(0:Int)+(↑k:Int))<|List.range m) by simp only[bD,reduceNeg,hr]),.lp 0<|q.1,.d 0 hx,.l 0 (show b4 gM.range [int (↑m:Int)]=some (List.map (λ(k:Nat)=>int<|(0:Int)+(↑k:Int))<|List.range m) by simp only[bD,reduceNeg,hr]),.cp 0<|(uU (n+1) l hn.len k (.fz<|.list<|M.map .int) (.KK<|.list<|VM.map dE) (.fz<|.int c) (.fz<|.int m) (.KK<|.list<|bs.map .bool) .no .no (List.range m) .no),.t 2<|Y0 hsz,.lp 0 ih] rfl
   .exact eM [.c 1 hc,.d 1 hy,.l 0 (show b4 gM.range [int (↑m:Int)]=some (List.map (λ(k:Nat)=>int<|(0:Int)+(↑k:Int))<|List.range m) by simp only[bD,reduceNeg,hr]),.lp 0<|q.1,.d 0 hx,.l 0 (show b4 gM.range [int (↑m:Int)]=some (List.map (λ(k:Nat)=>int<|(0:Int)+(↑k:Int))<|List.range m) by simp only[bD,reduceNeg,hr]),.cp 0<|(uU (n+1) l hn.len k (.fz<|.list<|M.map .int) (.KK<|.list<|VM.map dE) (.fz<|.int c) (.fz<|.int m) (.KK<|.list<|bs.map .bool) .no .no (List.range m) .no),.t 2<|Y0 hsz,.lp 0 ih] rfl
  .rcases mem_cons.mp hh with rfl|hh
   .exact hok
   .exact hf h hh
structure gN(l:VT)(hs:List Hd):Prop where
 nm:iK l
 pos:1<=hs.length
 le:hs.length<=4
 nms:hs.map (·.nm)=(List.range hs.length).map λk=>l.getD k ⟨#[]⟩
 ok:∀h∈hs,Lw l h
theorem AP(n:Nat)(M:List Int):∃l hs r,cF P (n+2) false 26 [.fz<|.list<|M.map .int]=some (.ok r,[])/\gN l hs/\(r = .KK (.list<|hs.map dE)\/r = .fz (.list<|hs.map dE)):=by
 refine ak λG g=>?_;refine aB (cell n M 0 (by decide)) λc0 TA=>?_;refine aB (cell n M 1 (by decide)) λc1 L4=>?_;obtain⟨l,r,hr,hn,ho⟩:=zD n c0;have h4:=fm c1 4 (by decide);have e4:1+c1.fmod 4=(((1+c1.fmod 4).toNat:Nat):Int):=by exact(ZX (dJ [((1:Int)+c1.fmod (4:Int)).toNat] [c1.fmod (4:Int)] 1 (.i (.a (.c 1) .x)<|.n .x) [Gk (.n .x)<|.a (.c 1) .x] rfl<|ZT (a:=(1:Int)+c1.fmod (4:Int))<|Li [c1.fmod (4:Int)] (.i (.c 0)<|.a (.c 1) .x) [Gi (.c 0) .x] rfl h4.1)<|dJ [((1:Int)+c1.fmod (4:Int)).toNat] [c1.fmod (4:Int)] 1 (.i (.n .x)<|.a (.c 1) .x) [Gj (.n .x)<|.a (.c 1) .x] rfl<|ZT (a:=(1:Int)+c1.fmod (4:Int))<|Li [c1.fmod (4:Int)] (.i (.c 0)<|.a (.c 1) .x) [Gi (.c 0) .x] rfl h4.1)
 generalize hk:(1+c1.fmod 4).toNat=k at e4;have k4:1<=k/\k<=4:=by exact⟨(dJ [k] [c1.fmod (4:Int)] 1 (.w (.c 1) .x) [Gi (.c 0) .x,Gj (.a (.c 1) .x)<|.n .x] rfl h4.1 e4),(dJ [k] [c1.fmod (4:Int)] 1 (.w .x<|.c 4) [Gi (.p 1 .x)<|.c 4,Gk (.a (.c 1) .x)<|.n .x] rfl h4.2 e4)⟩
 have sA:∀s1,(s1 = .KK (.list<|l.map .str)\/s1=sN l)-> ∃(hs:List Hd)(yQ:Slot),cm ⟨P.glob,cF P<|n+1,[],false⟩ [.fz<|.list<|M.map .int,s1,.KK<|.list [],.no,.no,.no,.no,.no,.no,.no] (.one 3) GY [3,4,5,6,7,8] ((List.range k).map λ(k:Nat)=>.int<|0+k)=some (.ok .next,[.fz<|.list<|M.map .int,yQ,.KK<|.list<|hs.map dE,.no,.no,.no,.no,.no,.no,.no])/\gN l hs:=λs1 h1=>by
  obtain⟨hs,yQ,ih,hm,hf⟩:=w5 n M l hn (List.range k) [] s1 .no .no .no .no .no .no .no h1 (λj hj=>by have:=mem_range.mp hj;exact(Ln [j,k] (.w (.p 1 .x)<|.c 12) [Gl .y<|.c 4,Gl (.p 1 .x) .y] rfl k4.2 this)) (by refine O ZE ?_;show 0+k<=1000;exact(L1 [k] (.a (.c 0) .x) (.c 1000) .x (.c 4) rfl k4.2));have hl:hs.length=k:=by have:=Y2 length hm;rw[ZG,ZG,ZE]at this;exact this
  exact⟨hs,yQ,ih,hn,by exact(Ln [hs.length,k] (.w (.c 1) .x) [Gl (.c 1) .y,Gf .x .y] rfl k4.1 hl),by exact(Ln [hs.length,k] (.w .x<|.c 4) [Gl .y<|.c 4,Ge .x .y] rfl k4.2 hl),by refine O hl ?_;exact hm,hf⟩
 rcases ho with rfl|rfl
 .refine g ?_;obtain⟨hs,yQ,ih,ok⟩:=sA (.KK<|.list<|l.map .str)<|.inl rfl;refine⟨l,hs,.fz<|.list<|hs.map dE,?_,ok,.inr rfl⟩;exact aG [.c 0 TA,.c 0 hr,.c 0 L4,.l 2 (show b4 gM.range [int<|(1:Int)+c1.fmod (4:Int)]=some (List.map (λ(k:Nat)=>int<|(0:Int)+(↑k:Int))<|List.range k) by simp only[e4,bD,reduceNeg,(cJ k<|L1 [k] .x (.c 1000) .x (.c 4) rfl k4.2)]),.lp 0 ih] rfl
 .refine g ?_;obtain⟨hs,yQ,ih,ok⟩:=sA (sN l)<|.inr rfl;refine⟨l,hs,.fz<|.list<|hs.map dE,?_,ok,.inr rfl⟩;exact aG [.c 0 TA,.c 0 hr,.c 0 L4,.l 2 (show b4 gM.range [int<|(1:Int)+c1.fmod (4:Int)]=some (List.map (λ(k:Nat)=>int<|(0:Int)+(↑k:Int))<|List.range k) by simp only[e4,bD,reduceNeg,(cJ k<|L1 [k] .x (.c 1000) .x (.c 4) rfl k4.2)]),.lp 0 ih] rfl
end Lq
end
variable {a t:Lq.T}{hs:List Lq.Hd}{h:Lq.Hd}{ps:List Lq.T}{fs:List Lq.Fun}
section
set_option backward.match.sparseCases false
namespace Lq
open PySem Mv
theorem gN.nd(h:gN l hs):(hs.map (·.nm)).Nodup:=by refine O h.nms ?_;refine pairwise_map.mpr<|Pairwise.imp_of_mem ?_ List.pairwise_lt_range;intro a b ha hb Rj;have ha:=mem_range.mp ha;have hb:=mem_range.mp hb;have:=h.le;exact zC h.nm.nd (by refine O h.nm.len ?_;exact(Ln [a,hs.length] (.w (.p 1 .x)<|.c 12) [Gl (.p 1 .x) .y,Gl .y<|.c 4] rfl ha this)) (by refine O h.nm.len ?_;exact(Ln [b,hs.length] (.w (.p 1 .x)<|.c 12) [Gl (.p 1 .x) .y,Gl .y<|.c 4] rfl hb this)) (λMW=>(Lf [a,b] [Gl (.p 1 .x) .y,Gf .x .y] rfl Rj MW))
theorem gN.mem(h:gN l hs):∀x∈hs.map (·.nm),x∈l:=by refine O h.nms ?_;intro x hx;obtain⟨k,hk,rfl⟩:=mem_map.mp hx;have:=mem_range.mp hk;have:=h.le;exact vt (by refine O h.nm.len ?_;exact(Ln [k,hs.length] (.w (.p 1 .x)<|.c 12) [Gl (.p 1 .x) .y,Gl .y<|.c 4] rfl ‹k<hs.length› this))
theorem gN.hok(h:gN l hs):Si hs:=⟨λe=>(by have:=h.pos;have this:=e▸this;cases this),λg hg=>(h.ok g hg).wn,λg hg=>(h.ok g hg).le⟩
noncomputable abbrev AS:Hd:=⟨⟨#[]⟩,[],[]⟩
theorem Ra{k:Nat}(hk:k<hs.length):bf (hs.map dE) (0+(k:Int))=some (dE<|hs.getD k AS)/\hs.getD k AS∈hs:=by unfold bf;rw[ZR,YX<|ZV _,ZU,ZJ,ZN];exact O (ZK hk)<|⟨rfl,getElem_mem hk⟩
noncomputable def cw:VT->List Bool->VT
 |x::ps,b::bs=>if b then x::cw ps bs else cw ps bs
 |_,_=>[]
noncomputable def mJ(ps:VT)(wn:List Bool):VS->VT
 |[]=>[]
 |j::js=>if wn.getD j false then ps.getD j ⟨#[]⟩::mJ ps wn js else mJ ps wn js
theorem Ni(x:Str)(ps:VT)(b:Bool)(wn:List Bool)(js:VS):mJ (x::ps) (b::wn) (js.map (· + 1))=mJ ps wn js:=by induction js with
 |nil=>rfl
 |cons j js ih=>
  show(if wn.getD j false then ps.getD j ⟨#[]⟩::mJ (x::ps) (b::wn) (js.map (· + 1)) else mJ (x::ps) (b::wn) (js.map (· + 1)))=_
  refine O ih ?_;rfl
theorem vb:∀(ps:VT)(wn:List Bool),wn.length=ps.length->mJ ps wn (List.range ps.length)=cw ps wn:=by intro ps;induction ps with
 |nil=>intro wn _;rfl
 |cons x ps ih=>intro wn h;cases wn with
  |nil=>exact nomatch h
  |cons b wn=>
   refine O ZH<|O List.range_succ_eq_map ?_;show(if b then x::mJ (x::ps) (b::wn) ((List.range ps.length).map Nat.succ) else mJ (x::ps) (b::wn) ((List.range ps.length).map Nat.succ))=if b then x::cw ps wn else cw ps wn
   exact O (show mJ (x::ps) (b::wn) ((List.range ps.length).map Nat.succ)=mJ ps wn (List.range ps.length) from Ni x ps b wn _)<|O (ih wn<|Y9 h) rfl
theorem Eo(n:Nat)(ps:VT)(wn:List Bool)(hw:wn.length=ps.length)(a0 a1 a2 a3 a4 a7 a8 a9 im kR:Slot):∀(js:VS)(lF:Slot),(∀j∈js,j<ps.length)->bB ⟨P.glob,cF P n,[],false⟩ [a0,a1,a2,a3,a4,.fz<|.tuple<|ps.map .str,.fz<|.tuple<|wn.map .bool,a7,a8,a9,im,kR,lF] (.idx (ae 5)<|ae 12) (.one 12) [.idx (ae 6)<|ae 12] (js.map λ(j:Nat)=>.int<|0+j)=some (.ok<|(mJ ps wn js).map .str,[a0,a1,a2,a3,a4,.fz<|.tuple<|ps.map .str,.fz<|.tuple<|wn.map .bool,a7,a8,a9,im,kR,.no]):=by intro js;induction js with
 |nil=>exact @λlF aa=>by refine O Zy ?_;rw[aL];rfl
 |cons j js IH=>
  intro lF hj;have hb:=sK wn j<|Ln [j,wn.length,ps.length] (.w (.p 1 .x) .y) [Gf .y .z,Gl (.p 1 .x) .z] rfl hw<|hj j Zt;have hx:bf (ps.map str) (0+(j:Int))=some (.str<|ps.getD j ⟨#[]⟩):=by rw[ZR];exact lb<|hj j Zt
  have e:mJ ps wn (j::js)=if wn.getD j false then ps.getD j ⟨#[]⟩::mJ ps wn js else mJ ps wn js:=rfl
  refine O e ?_;generalize wn.getD j false=b at hb;cases b with
  |true=>exact O Zz<|jS [.d 0 hb,.d 1 hx,.cp 0<|(IH (.fz<|.int<|0+j)<|eA hj)] rfl
  |false=>exact O Zz<|jS [.d 0 hb,.cp 1<|(IH (.fz<|.int<|0+j)<|eA hj)] rfl
inductive Ci(n:Nat)(M:List Int)(hs:List Hd)(h:Hd)(k:Nat)(VM:List Fun)(s3 s4 s5 s6 s7 s8 s9 fO jt:Slot)(rest:VX):Prop
 |mk (t:T) (Ui su LO Uh Ug Uf Qm Ql:Slot):eL hs (cw h.ps h.wn) 8 t->(∀R,cm ⟨P.glob,cF P<|n+20,[],false⟩ [.fz<|.list<|M.map .int,sH hs,.KK<|.list<|(VM++[(h,t)]).map gR,.fz<|.int<|0+k,Ui,su,LO,Uh,Ug,Uf,Qm,Ql,.no] (.one 3) uV [3,4,5,6,7,8,9,10,11] rest=some R->cm ⟨P.glob,cF P<|n+20,[],false⟩ [.fz<|.list<|M.map .int,sH hs,.KK<|.list<|VM.map gR,s3,s4,s5,s6,s7,s8,s9,fO,jt,.no] (.one 3) uV [3,4,5,6,7,8,9,10,11] (.int (0+k)::rest)=some R)->Ci n M hs h k VM s3 s4 s5 s6 s7 s8 s9 fO jt rest
theorem T9{r:Int}(h:0<=r/\r<3):∃e:Nat,1+r=(e:Int)/\e<=3:=by obtain⟨n,rfl⟩:=Int.eq_ofNat_of_zero_le h.1;exact⟨1+n,(natCast_add 1 n).symm,add_comm 1 n▸ofNat_lt.mp h.2⟩
theorem wv(n:Nat)(M:List Int)(hh:gN l hs)(k:Nat)(hk:k<hs.length)(VM:List Fun)(hl:VM.length<=1000)(s3 s4 s5 s6 s7 s8 s9 fO jt:Slot)(rest:VX):Ci n M hs (hs.getD k AS) k VM s3 s4 s5 s6 s7 s8 s9 fO jt rest:=by
 refine ak λG g=>?_;have z:=Ra hk;generalize hs.getD k AS=h at *;refine ak λG1 g1=>?_;refine aB (cell (n+19) M (6+(0+(k:Int)))<|Ln [k] (.i (.c 0)<|.a (.c 6)<|.a (.c 0)<|.n .x) [] rfl) λc6 PO=>?_;refine aB (cell (n+19) M 10 (by decide)) λRW EQ=>?_;refine aB (cell (n+19) M 11 (by decide)) λRV EP=>?_;have PK:=zU (a:=c6) (b:=977) (by decide);refine aB (fG (n+19)<|c6*977+(0+(k:Int))) λq hq=>?_;refine aB (fG (n+19)<|q+31) λq2 Tl=>?_;have hr:=cJ h.ps.length (by have:=(hh.ok h z.2).le;exact(L1 [h.ps.length] .x (.c 1000) .x (.c 6) rfl this));have lp:(((h.ps.map str).length:Nat):Int)=(h.ps.length:Int):=by rw[ZG]
 have LX:=Eo (n+20) h.ps h.wn (hh.ok h z.2).wn (.fz<|.list<|M.map .int) (sH hs) (.KK<|.list<|VM.map gR) (.fz<|.int<|0+k) (.fz<|.str h.nm) .no .no .no .no .no (List.range h.ps.length) .no λj hj=>mem_range.mp hj;rw[vb h.ps h.wn (hh.ok h z.2).wn]at LX;obtain⟨kn,LY⟩:∃kn,kn=cw h.ps h.wn:=⟨_,rfl⟩
 rw[<- LY]at LX;have cv:∀{u:T},eL hs kn 8 u->eL hs (cw h.ps h.wn) 8 u:=λh=>LY▸h;have k4:k<4:=by have:=hh.le;exact(Ln [k,hs.length] (.w (.p 1 .x)<|.c 4) [Gl (.p 1 .x) .y,Gl .y<|.c 4] rfl hk this)
 have dz:((0+(k:Int)+1≠0)/\(0+(k:Int)+1).natAbs<2 ^ 64):=⟨by exact(λMR=>(Lf [k] [Gj (.p 1<|.a (.c 0)<|.n .x)<|.c 0] rfl MR)),by exact(Ln [((0:Int)+(↑k:Int)+(1:Int)).natAbs,k] (.w (.p 1 .x)<|.c 18446744073709551616) [Gl (.p 1 .y)<|.c 4,Gj (.n .x)<|.p 1<|.a (.c 0)<|.n .y] rfl k4<|ZW (a:=(0:Int)+(↑k:Int)+(1:Int))<|Ln [k] (.i (.c 0)<|.p 1<|.a (.c 0)<|.n .x) [] rfl)⟩
 obtain⟨e,e3,e4⟩:=T9<|fm (RW.fdiv<|0+(k:Int)+1) 3 (by decide);obtain⟨t,ht,ft⟩:=f7 (ns:=h.ps) (kn:=kn) hh.hok e (n+20) (Ln [e,n] (.w (.p 3<|.m 3 .x)<|.p 20 .y) [(3,.w .x<|.c 3)] rfl e4) q;obtain⟨t2,Tj,Vf⟩:=f7 (ns:=h.ps) (kn:=kn) hh.hok 2 (n+20) (L0 [n] (.p 3<|.m 3<|.c 2) (.p 20 .x) rfl) q2;have hsz:(VM.map gR).length<Sz:=by rw[ZG];show VM.length<16777216;exact(L1 [VM.length] (.p 1 .x) (.c 16777216) .x (.c 1000) rfl hl)
 have f1:b4 .range [.int ((h.ps.map str).length:Int)]=some ((List.range h.ps.length).map λ(k:Nat)=>int<|0+k):=by exact O lp<|(bD _).trans hr
 have f2:op2 .fdiv (.int RW) (.int<|0+(k:Int)+1)=some (.fz<|.int<|RW.fdiv<|0+(k:Int)+1):=(oG _ _).trans<|YX dz;have f3:op2 .fdiv (.int RV) (.int<|0+(k:Int)+1)=some (.fz<|.int<|RV.fdiv<|0+(k:Int)+1):=(oG _ _).trans<|YX dz;rw[<- e3]at ht;clear hr dz e3;refine ak λG5 g5=>?_;by_cases qa:0<(RV.fdiv<|0+(k:Int)+1).fmod 3
 .refine g5 ?_;refine g1 ?_;refine g ?_;by_cases qb:(0:Int)<(h.ps.length:Int)
  .have qp:=Ka (lp▸qb:(0:Int)<((h.ps.map str).length:Nat));have nz:=Int.ne_of_gt qb;refine ak λG2 g2=>?_;obtain⟨x,Tg,mx⟩:=cj (M:=h.ps.map str) (r:=q2.fmod h.ps.length) (fm q2 h.ps.length qb).1 (by refine O lp ?_;exact(fm q2 h.ps.length qb).2);refine ak λG3 g3=>?_;refine aB (mem_map.mp mx) λx Q=>?_;obtain rfl:=Q.2;have d4:∀u:T,eL hs kn 2 u->eL hs kn 8 (.iff [u,t,t2]):=λu fu=>eL.iff (d:=7) rfl λv hv=>by
    simp only[Zv,Zp,or_false]at hv;rcases hv with rfl|rfl|rfl
    .exact fu.mono (by decide)
    .exact ft.mono (L1 [e] (.p 4 .x) (.c 7) .x (.c 3) rfl e4)
    .exact Vf.mono (by decide)
   refine ak λG4 g4=>?_;by_cases qc:(q2.fdiv 8).fmod 2=1
   .refine g4 ?_;refine g3 ?_;refine g2 ?_;refine⟨.iff [.doo bn [.nam x],t,t2],.fz<|.str h.nm,.fz<|dq h.ps,.fz<|.tuple<|h.wn.map .bool,.fz<|.list<|kn.map .str,.fz<|.int q,.fz<|bT<|.iff [.doo bn [.nam x],t,t2],.fz<|.int q2,.fz<|bT<|.doo bn [.nam x],cv<|d4 _<|u4 (by kernel_rfl) (by kernel_rfl) (.nam:eL hs kn 1 (.nam x)),λR hR=>?_⟩;rw[ZB]at hR;exact eM [.d 0<|z.1,.l 1 f1,.cp 0 LX,.c 1 PO,.v 0 PK,.c 1 hq,.c 0 EQ,.v 1 f2,.c 3 ht,.c 0 EP,.v 1 f3,.b 1<|Ka qa,.b 2 qp,.c 2 Tl,.v 1<|oM (a:=q2) lp nz,.d 0 Tg,.b 2<|eqT qc,.c 2 Tj,.t 0<|Y0 hsz,.lp 0 hR] rfl
   .refine g4 ?_;refine g3 ?_;refine g2 ?_;refine⟨.iff [.nam x,t,t2],.fz<|.str h.nm,.fz<|dq h.ps,.fz<|.tuple<|h.wn.map .bool,.fz<|.list<|kn.map .str,.fz<|.int q,.fz<|bT<|.iff [.nam x,t,t2],.fz<|.int q2,.fz<|bT<|.nam x,cv<|d4 _<|(.nam:eL hs kn 1 (.nam x)).mono (by decide),λR hR=>?_⟩;rw[ZB]at hR;exact eM [.d 0<|z.1,.l 1 f1,.cp 0 LX,.c 1 PO,.v 0 PK,.c 1 hq,.c 0 EQ,.v 1 f2,.c 3 ht,.c 0 EP,.v 1 f3,.b 1<|Ka qa,.b 2 qp,.c 2 Tl,.v 1<|oM (a:=q2) lp nz,.d 0 Tg,.b 2<|L6 qc,.c 2 Tj,.t 0<|Y0 hsz,.lp 0 hR] rfl
  .refine⟨t,.fz<|.str h.nm,.fz<|dq h.ps,.fz<|.tuple<|h.wn.map .bool,.fz<|.list<|kn.map .str,.fz<|.int q,.fz<|bT t,.no,.no,cv<|ft.mono<|L1 [e] (.p 4 .x) (.c 8) .x (.c 3) rfl e4,λR hR=>?_⟩;rw[ZB]at hR;exact eM [.d 0<|z.1,.l 1 f1,.cp 0 LX,.c 1 PO,.v 0 PK,.c 1 hq,.c 0 EQ,.v 1 f2,.c 3 ht,.c 0 EP,.v 1 f3,.b 1<|Ka qa,.b 2<|N5 (lp▸qb:¬(0:Int)<((h.ps.map str).length:Nat)),.t 1<|Y0 hsz,.lp 0 hR] rfl
 .refine g5 ?_;refine g1 ?_;refine g ?_;refine⟨t,.fz<|.str h.nm,.fz<|dq h.ps,.fz<|.tuple<|h.wn.map .bool,.fz<|.list<|kn.map .str,.fz<|.int q,.fz<|bT t,.no,.no,cv<|ft.mono<|L1 [e] (.p 4 .x) (.c 8) .x (.c 3) rfl e4,λR hR=>?_⟩;have hR:=ZB▸hR;exact eM [.d 0<|z.1,.l 1 f1,.cp 0 LX,.c 1 PO,.v 0 PK,.c 1 hq,.c 0 EQ,.v 1 f2,.c 3 ht,.c 0 EP,.v 1 f3,.b 1<|N5 qa,.t 2<|Y0 hsz,.lp 0 hR] rfl
theorem ww(n:Nat)(M:List Int)(hh:gN l hs):∀(ks:VS)(VM:List Fun)(s3 s4 s5 s6 s7 s8 s9 fO jt:Slot),(∀k∈ks,k<hs.length)->VM.length+ks.length<=1000->xX (λfs=>cm ⟨P.glob,cF P<|n+20,[],false⟩ [.fz<|.list<|M.map .int,sH hs,.KK<|.list<|VM.map gR,s3,s4,s5,s6,s7,s8,s9,fO,jt,.no] (.one 3) uV [3,4,5,6,7,8,9,10,11] (ks.map λ(k:Nat)=>.int<|0+k)=some (.ok .next,[.fz<|.list<|M.map .int,sH hs,.KK<|.list<|(VM++fs).map gR,.no,.no,.no,.no,.no,.no,.no,.no,.no,.no])) (λfs=>fs.map (·.1)=ks.map λk=>hs.getD k AS) (λfs=> ∀f∈fs,eL hs (cw f.1.ps f.1.wn) 8 f.2):=by intro ks;induction ks with
 |nil=>exact @λVM s3 s4 s5 s6 s7 s8 s9 fO jt aa ai=>⟨[],by refine O Zy ?_;rw[bb,ZO];rfl,rfl,λf h=>by cases h⟩
 |cons k ks IH=>
  intro VM s3 s4 s5 s6 s7 s8 s9 fO jt hk hl;have hl:=ZH▸hl;obtain⟨t,a4,a5,a6,a7,a8,a9,im,kR,ft,st⟩:=wv n M hh k (hk k Zt) VM (L1 [VM.length,ks.length] .x (.c 1000) (.a .x<|.p 1 .y) (.c 1000) rfl hl) s3 s4 s5 s6 s7 s8 s9 fO jt<|ks.map λ(k:Nat)=>.int<|0+k;obtain⟨fs,ih,hm,hf⟩:=IH (VM++[(hs.getD k AS,t)]) (.fz<|.int<|0+k) a4 a5 a6 a7 a8 a9 im kR (eA hk) (by refine O ZI ?_;show VM.length+1+ks.length<=1000;exact(L1 [VM.length,ks.length] (.a (.p 1 .x) .y) (.c 1000) (.a .x<|.p 1 .y) (.c 1000) rfl hl));refine⟨(hs.getD k AS,t)::fs,?_,by exact O Zz<|O Zz<|O hm rfl,λf h=>?_⟩
  .rw[ZP]at ih;exact st _ ih
  .rcases mem_cons.mp h with rfl|h
   .exact ft
   .exact hf f h
theorem wu(hs:List Hd):((List.range hs.length).map λk=>hs.getD k AS)=hs:=by
 apply List.ext_getElem?;intro i;refine O ZJ ?_;by_cases q:i<hs.length
 .refine O (List.getElem?_range q) (O (ZK q) ?_);show some (hs.getD i AS)=some hs[i]
  refine O ZN<|O (ZK q) ?_;rfl
 .rw[getElem?_eq_none (by refine O ZE ?_;exact(Nat.not_lt.mp q)),getElem?_eq_none<|Nat.not_lt.mp q];rfl
structure Pk(hs:List Hd)(fs:List Fun):Prop where
 hd:fs.map (·.1)=hs
 ok:∀f∈fs,eL hs (cw f.1.ps f.1.wn) 8 f.2
theorem sZ(n:Nat)(M:List Int)(hh:gN l hs):kU (λfs=>cF P (n+21) false 27 [.fz<|.list<|M.map .int,sH hs]=some (.ok<|.fz<|dW fs,[])) (λfs=>Pk hs fs):=by
 obtain⟨fs,ih,hm,hf⟩:=ww n M hh (List.range hs.length) [] .no .no .no .no .no .no .no .no .no (λk hk=>mem_range.mp hk) (by refine O ZE ?_;show 0+hs.length<=1000;exact(L1 [hs.length] (.a (.c 0) .x) (.c 1000) .x (.c 4) rfl hh.le));rw[wu]at hm;rw[Zy,Zq]at ih;refine⟨fs,?_,hm,hf⟩;have lp:(((hs.map dE).length:Nat):Int)=(hs.length:Int):=by rw[ZG]
 exact aG [.l 1 (show b4 gM.range [int (↑(List.map dE hs).length:Int)]=some (List.map (λ(k:Nat)=>int<|(0:Int)+(↑k:Int))<|List.range hs.length) from lp▸(bD _).trans (cJ hs.length<|L1 [hs.length] .x (.c 1000) .x (.c 4) rfl hh.le)),.lp 0 ih] rfl
mutual
theorem kZ:∀d:D,eo d=true->noDict d=true/\d.depth=dep d
 |.int i,_=>⟨rfl,rfl⟩
 |.tuple X,h=>by have z:=qJ X h;exact⟨z.1,Y2 (· + 1) z.2⟩
 |.none,h=>by cases h
 |.bool _,h=>by cases h
 |.str _,h=>by cases h
 |.list _,h=>by cases h
 |.dict _,h=>by cases h
theorem qJ:∀X:VX,cR X=true->noDicts X=true/\depthAll X=cZ X
 |[],_=>⟨rfl,rfl⟩
 |d::X,h=>by
  have h:(eo d&&cR X)=true:=h;rw[Z8]at h;have Q:=kZ d h.1;have q:=qJ X h.2;refine⟨by show(noDict d&&noDicts X)=true;refine O Q.1<|O q.1 ?_;rfl,?_⟩;show max d.depth (depthAll X)=max (dep d) (cZ X)
  exact O Q.2<|O q.2 rfl
end
mutual
theorem BP:∀d:D,dep d<=wt d
 |.tuple X=>by have:=jK X;show cZ X+1<=1+dZ X;exact(L1 [cZ X,dZ X] (.p 1 .x) (.a (.c 1) .y) .x .y rfl this)
 |.int _=>Y7 _
 |.none=>Y7 _
 |.bool _=>Y7 _
 |.str _=>Y7 _
 |.list _=>Y7 _
 |.dict _=>Y7 _
theorem jK:∀X:VX,cZ X<=dZ X
 |[]=>Zh _
 |d::X=>by have h1:=BP d;have h2:=jK X;show max (dep d) (cZ X)<=wt d+dZ X;exact max_le.mpr ⟨by exact(L1 [dep d,wt d,dZ X] .x (.a .y .z) .x .y rfl h1),by exact(L1 [cZ X,wt d,dZ X] .x (.a .y .z) .x .z rfl h2)⟩
end
structure Vg(d:D):Prop where
 g:eo d=true
 w:wt d<=50
theorem Vg.dp{d:D}(h:Vg d):dep d<=50:=Zg (BP d) h.w
theorem Vl.vg{d:D}(h:Vl d):Vg d:=⟨h.1,h.2.2⟩
inductive VK(d:D):Prop
 |int (i:Int):d = .int i->i.natAbs<2 ^ 64->VK d
 |tup (t:VX):d = .tuple t->cR t=true->dZ t<=49->VK d
theorem Vg.k{d:D}(h:Vg d):VK d:=by obtain⟨a,c⟩:=h;cases d with
 |int i=>have a:ek i=true:=a;unfold ek at a;simp only[Z8,YZ]at a;exact .int i rfl<|Or.elim (Int.le_total 0 i) (λJq=>(dJ [i.natAbs] [i] 1 (.w (.p 1 .x)<|.c 18446744073709551616) [Gi (.p 1 .x)<|.c 1000000000000000000,Gj (.n .x) .x] rfl a.2<|ZW (a:=i) Jq)) (λJq=>(dJ [i.natAbs] [i] 1 (.w (.p 1 .x)<|.c 18446744073709551616) [Gi (.p 1<|.g<|.c 1000000000000000000) .x,Gj (.n .x)<|.g .x] rfl a.1<|Int.ofNat_natAbs_of_nonpos (a:=i) Jq))
 |tuple t=>exact .tup t rfl a (by have:wt (.tuple t)=1+dZ t:=rfl;exact(Ln [dZ t,wt<|tuple t] (.w .x<|.c 49) [Gl .y<|.c 50,Gf .y<|.a (.c 1) .x] rfl c this))
 |none=>cases a
 |bool _=>cases a
 |str _=>cases a
 |list _=>cases a
 |dict _=>cases a
noncomputable def eS(a b:D):Bool:=(eqD a b).getD false
theorem vC{x y:D}(hx:Vg x)(hy:Vg y):eqD x y=some (eS x y):=by
 have ok:fh x y=true:=by obtain⟨a,b⟩:=kZ x hx.g;obtain⟨c,e⟩:=kZ y hy.g;unfold fh;rw[a,c,Y0 (by rw[b,e];have:=hx.dp;exact(Ln [min (dep x)<|dep y,dep x] (.w .x<|.c 64) [Gl .y<|.c 50,Gl .x .y] rfl this<|min_le_left (dep x)<|dep y))];rfl
 have:∃e,eqD x y=some e:=by
  rcases hx.k with⟨a,rfl,_⟩|⟨s,rfl,_⟩<;>rcases hy.k with⟨b,rfl,_⟩|⟨t,rfl,_⟩
  .exact⟨_,rfl⟩
  .exact⟨eqv (.int a)<|.tuple t,by show(if fh (.int a) (.tuple t)=true then _ else _)=_;rw[YX ok]⟩
  .exact⟨eqv (.tuple s)<|.int b,by show(if fh (.tuple s) (.int b)=true then _ else _)=_;rw[YX ok]⟩
  .exact⟨eqv (.tuple s)<|.tuple t,by show(if fh (.tuple s) (.tuple t)=true then _ else _)=_;rw[YX ok]⟩
 obtain⟨e,h⟩:=this;unfold eS;rw[h];rfl
noncomputable abbrev iL(r:VW D):Option (VW Rv×List Mv.Slot):=match r with
 |.ok d=>some (.ok<|.fz d,[])
 |.error e=>some (.error e,[])
noncomputable def mM(d:D):Bool:=eo d&&decide (wt d<=50)
noncomputable def cG(d:D):VW D:=match mM d with
 |true=>.ok d
 |false=>.error cH
theorem E7{d:D}(h:mM d=true):Vg d:=by unfold mM at h;rw[Z8]at h;exact⟨h.1,YW h.2⟩
theorem tX(n:Nat)(d:D)(h:dep d<n):cF P (n+2) false 2 [.fz d]=iL (cG d):=by have e:=qV n d h;unfold cG;cases hf:mM d with
 |true=>have e:=e.trans (by exact O (show(eo d&&decide (wt d<=50))=true from hf) rfl);exact aG [.c 0 e] rfl
 |false=>have e:=e.trans (by exact O (show(eo d&&decide (wt d<=50))=false from hf) rfl);exact aG [.c 0 e] rfl
noncomputable def oH(op:Str)(a b:Int):VW D:=
 if op=fQ then cG (.int<|a+b) else if op=fJ then cG (.int<|a-b) else if op=eG then cG (.int<|a*b) else if op=gC then .ok (.int (if a<b then 1 else 0))
 else if b=0 then .error bU else cG (.int<|a.fdiv b)
noncomputable def MI(op:Str):D->D->VW D
 |.int a,.int b=>oH op a b
 |_,_=>.error bz
noncomputable def nO:D->VW D
 |.int a=>if a<1 then .error c8 else .ok (.int<|a-1)
 |_=>.error bz
noncomputable def hW(op:Str):D->VW D
 |.tuple []=>if op=bn then .ok (.int 1) else .error bY
 |.tuple (d::r)=>if op=bn then .ok (.int 0) else if op=bq then .ok d else .ok (.tuple r)
 |_=>.error cu
noncomputable def vc(a:D):D->VW D
 |.tuple l=>cG<|.tuple (a::l)
 |_=>.error cu
noncomputable def dn(op:Str)(vs:VX):VW D:=if op=aX then cG (.tuple vs) else match vs with
 |[a]=>if op=cB then nO a else hW op a
 |[a,b]=>if op=gB then .ok (.int (if eS a b then 1 else 0)) else if op=fR then vc a b else MI op a b
 |_=>.error cH
theorem oP:∀t:VX,t.length<=dZ t:=by intro t;induction t with
 |nil=>exact Zh _
 |cons d t ih=>have h1:=ih;have h2:=sG d;show t.length+1<=wt d+dZ t;exact(Ln [t.length,wt d,dZ t] (.w (.p 1 .x)<|.a .y .z) [Gl .x .z,Gl (.c 1) .y] rfl h1 h2)
theorem kK{x k:Str}(h:x≠k):aI .eq (.str x) (.str k)=some false:=by rw[vI];exact O (Y1 h) rfl
theorem MD{x k:Str}(h:x=k):aI .eq (.str x) (.str k)=some true:=by rw[vI];exact O (Y0 h) rfl
noncomputable abbrev vK(x:Str):Slot:=.fz<|.str x
theorem MK(m:Nat)(op a b:D)(h:lX .tup a=true\/(lX .tup a=false/\lX .tup b=true)):cF P (m+1) false 3 [.fz op,.fz a,.fz b]=iL (.error bz):=by
 rcases h with h|⟨h,h'⟩
 .exact aG [.t 1 h,.t 0 h] rfl
 .exact aG [.t 1 h,.t 1 h'] rfl
theorem D1(m:Nat)(a b:Int):cF P (m+1) false 3 [vK fQ,.fz<|.int a,.fz<|.int b]=iL (.ok<|.int<|a+b):=by exact aG [] rfl
theorem zB(m:Nat)(a b:Int):cF P (m+1) false 3 [vK fJ,.fz<|.int a,.fz<|.int b]=iL (.ok<|.int<|a-b):=by exact aG [] rfl
theorem zy(m:Nat)(a b:Int)(h:a.natAbs<2 ^ 64):cF P (m+1) false 3 [vK eG,.fz<|.int a,.fz<|.int b]=iL (.ok<|.int<|a*b):=by exact aG [.v 10<|(hS h:op2 .mul (.int a) (.int b)=some (.fz<|.int<|a*b))] rfl
theorem D3(m:Nat)(a b:Int):cF P (m+1) false 3 [vK gC,.fz<|.int a,.fz<|.int b]=iL (.ok<|.int (if a<b then 1 else 0)):=by
 by_cases q:a<b
 .exact O (YX q) (aG [.b 12<|tG q] rfl)
 .exact O (YY q) (aG [.b 12<|jd q] rfl)
theorem zA(m:Nat)(a:Int):cF P (m+1) false 3 [vK eY,.fz<|.int a,.fz<|.int 0]=iL (.error bU):=by exact aG [] rfl
theorem D2(m:Nat)(a b:Int)(h:b.natAbs<2 ^ 64)(h0:b≠0):cF P (m+1) false 3 [vK eY,.fz<|.int a,.fz<|.int b]=iL (.ok<|.int<|a.fdiv b):=by
 have e:op2 .fdiv (.int a) (.int b)=some (.fz<|.int<|a.fdiv b):=by rw[oG];exact O (YX ⟨h0,h⟩) rfl
 have q:aI .eq (.int b) (.int 0)=some false:=by rw[jL];exact O (Y1 h0) rfl
 exact aG [.b 12 q,.v 1 e] rfl
structure kI(op:Str):Prop where
 l:op≠aX
 d:op≠cB
 s:dM op m7=false
 e:op≠gB
 j:op≠fR
theorem fj(n:Nat){op:Str}(h:kI op)(a b:D)(r:VW D)(h4:cF P (n+59) false 3 [vK op,.fz a,.fz b]=iL r)(hd:∀v,r = .ok v->dep v=0):cF P (n+60) false 7 [vK op,.fz<|.list [a,b]]=iL (r.bind cG):=by have q1:=kK h.l;have q2:=kK h.d;have q4:=kK h.e;have q5:=kK h.j;have q3:=(JJ op).trans<|O h.s rfl;cases r with
 |error e=>exact aG [.b 0 q1,.b 1 q2,.b 1 q3,.b 1 q4,.b 1 q5,.c 3 h4] rfl
 |ok v=>
  have f:=tX (n+57) v (by refine O (hd v rfl) ?_;exact Nat.succ_pos _);show _=iL (cG v)
  cases hf:cG v with
  |ok u=>rw[hf]at f;exact aG [.b 0 q1,.b 1 q2,.b 1 q3,.b 1 q4,.b 1 q5,.c 3 h4,.c 0 f] rfl
  |error e=>rw[hf]at f;exact aG [.b 0 q1,.b 1 q2,.b 1 q3,.b 1 q4,.b 1 q5,.c 3 h4,.c 0 f] rfl
theorem xB(n:Nat)(vs:VX)(hd:cZ vs<=50):cF P (n+60) false 7 [vK aX,.fz<|.list vs]=iL (cG<|.tuple vs):=by have f:=tX (n+57) (.tuple vs) (by show cZ vs+1<n+57;exact(L1 [cZ vs,n] (.p 1<|.p 1 .x) (.p 57 .y) .x (.c 50) rfl hd));cases hf:cG (.tuple vs) with
 |ok u=>rw[hf]at f;exact aG [.c 3 f] rfl
 |error e=>rw[hf]at f;exact aG [.c 3 f] rfl
theorem FG(m:Nat)(a:D)(h:Vg a):cF P (m+1) false 4 [.fz a]=iL (nO a):=by
 rcases h.k with⟨i,rfl,_⟩|⟨t,rfl,_⟩
 .show _=iL (if i<1 then .error c8 else .ok (.int<|i-1))
  by_cases q:i<1
  .exact O (YX q) (aG [.b 2<|tG q] rfl)
  .exact O (YY q) (aG [.b 2<|jd q] rfl)
 .exact aG [] rfl
theorem xD(n:Nat)(a:D)(h:Vg a):cF P (n+60) false 7 [vK cB,.fz<|.list [a]]=iL (nO a):=by have f:=FG (n+58) a h;cases hf:nO a with
 |ok u=>rw[hf]at f;exact aG [.c 5 f] rfl
 |error e=>rw[hf]at f;exact aG [.c 5 f] rfl
theorem tH(m:Nat)(op:D)(i:Int):cF P (m+1) false 5 [.fz op,.fz<|.int i]=iL (.error cu):=by exact aG [] rfl
theorem Af(m:Nat)(t:VX):cF P (m+1) false 5 [vK bn,.fz<|.tuple t]=iL (hW bn<|.tuple t):=by cases t with
 |nil=>show _=iL (.ok<|.int 1);exact aG [] rfl
 |cons d r=>
  have q:aI .eq (.int ((d::r).length:Nat)) (.int 0)=some false:=by rw[cD];exact Y2 some<|LU d r
  exact aG [] rfl
theorem Ae(m:Nat)(t:VX):cF P (m+1) false 5 [vK bq,.fz<|.tuple t]=iL (hW bq<|.tuple t):=by cases t with
 |nil=>show _=iL (.error bY);exact aG [] rfl
 |cons d r=>
  have q:aI .eq (.int ((d::r).length:Nat)) (.int 0)=some false:=by rw[cD];exact Y2 some<|LU d r
  exact aG [] rfl
theorem Ed(m:Nat)(t:VX):cF P (m+1) false 5 [vK cA,.fz<|.tuple t]=iL (hW cA<|.tuple t):=by cases t with
 |nil=>show _=iL (.error bY);exact aG [] rfl
 |cons d r=>
  have q:aI .eq (.int ((d::r).length:Nat)) (.int 0)=some false:=by rw[cD];exact Y2 some<|LU d r
  exact aG [.v 10<|jr d r] rfl
theorem ii(n:Nat){op:Str}(h1:op≠aX)(h2:op≠cB)(h3:dM op m7=true)(a:D)(r:VW D)(f:cF P (n+59) false 5 [vK op,.fz a]=iL r):cF P (n+60) false 7 [vK op,.fz<|.list [a]]=iL r:=by have q1:=kK h1;have q2:=kK h2;cases r with
 |ok u=>exact aG [.b 0 q1,.b 1 q2,.b 1<|((JJ op).trans (by rw[h3])),.c 2 f] rfl
 |error e=>exact aG [.b 0 q1,.b 1 q2,.b 1<|((JJ op).trans (by rw[h3])),.c 2 f] rfl
theorem xA(n:Nat)(a b:D)(ha:Vg a)(hb:Vg b):cF P (n+60) false 7 [vK gB,.fz<|.list [a,b]]=iL (.ok<|.int (if eS a b then 1 else 0)):=by have e:=vC ha hb;cases hs:eS a b with
 |true=>rw[hs]at e;show _=iL (.ok<|.int 1);exact aG [.b 10 e] rfl
 |false=>rw[hs]at e;show _=iL (.ok<|.int 0);exact aG [.b 10 e] rfl
theorem EA(m:Nat)(a b:D)(hb:Vg b):cF P (m+1) false 6 [.fz a,.fz b]=iL (match b with|.tuple l=>.ok (.tuple (a::l))|_=>.error cu):=by
 rcases hb.k with⟨i,rfl,_⟩|⟨t,rfl,_,hw⟩
 .exact aG [] rfl
 .have e:op2 .add (.tuple [a]) (.tuple t)=some (.fz<|.tuple (a::t)):=by
   show(if [a].length+t.length<=Sz then some (Rv.fz<|.tuple<|[a]++t) else none)=_
   refine O (YX (by show 1+t.length<=16777216;exact(L1 [t.length] (.a (.c 1) .x) (.c 16777216) .x (.c 49) rfl (Zg (oP t) hw:t.length<=49)))) ?_;rfl
  exact aG [.v 3 e] rfl
theorem xC(n:Nat)(a b:D)(ha:Vg a)(hb:Vg b):cF P (n+60) false 7 [vK fR,.fz<|.list [a,b]]=iL (vc a b):=by
 have f:=EA (n+58) a b hb;rcases hb.k with⟨i,rfl,_⟩|⟨t,rfl,_,hw⟩
 .exact aG [.c 12 f] rfl
 .show _=iL (cG<|.tuple (a::t))
  have e:=tX (n+57) (.tuple (a::t)) (by have h1:=ha.dp;have h2:=Zg (jK t) hw;exact(L1 [max (dep a)<|cZ t,n] (.p 1<|.p 1 .x) (.p 57 .y) .x (.c 50) rfl<|max_le.mpr ⟨h1,by exact(L1 [cZ t] .x (.c 50) .x (.c 49) rfl h2)⟩));cases hf:cG (.tuple (a::t)) with
  |ok u=>rw[hf]at e;exact aG [.c 12 f,.c 0 e] rfl
  |error x=>rw[hf]at e;exact aG [.c 12 f,.c 0 e] rfl
end Lq
end
variable {k:Nat}
section
namespace Lq
open PySem Mv
theorem uo{op:Str}(h:kI op)(a b:D):dn op [a,b]=MI op a b:=by unfold dn;refine O (YY h.l) ?_;dsimp only;exact O (YY h.e)<|O (YY h.j) rfl
theorem uZ:kI fQ:=⟨by decide,by decide,by decide,by decide,by decide⟩
theorem qC:kI fJ:=⟨by decide,by decide,by decide,by decide,by decide⟩
theorem qB:kI eG:=⟨by decide,by decide,by decide,by decide,by decide⟩
theorem u3:kI gC:=⟨by decide,by decide,by decide,by decide,by decide⟩
theorem oE:kI eY:=⟨by decide,by decide,by decide,by decide,by decide⟩
theorem tw(a b:Int):oH fQ a b=cG (.int<|a+b):=YX rfl
theorem oJ(a b:Int):oH fJ a b=cG (.int<|a-b):=(YY (by decide)).trans<|YX rfl
theorem oI(a b:Int):oH eG a b=cG (.int<|a*b):=(YY (by decide)).trans<|(YY (by decide)).trans<|YX rfl
theorem tA(a b:Int):oH gC a b = .ok (.int (if a<b then 1 else 0)):=(YY (by decide)).trans<|(YY (by decide)).trans<|(YY (by decide)).trans<|YX rfl
theorem tx(a b:Int):oH eY a b=if b=0 then .error bU else cG (.int<|a.fdiv b):=(YY (by decide)).trans<|(YY (by decide)).trans<|(YY (by decide)).trans<|YY (by decide)
theorem Hi(a b:Int):cG (.int (if a<b then 1 else 0)) = .ok (.int (if a<b then 1 else 0)):=by by_cases q:a<b<;>simp only[q,if_true,if_false]<;>rfl
inductive jQ(op:Str):Prop
 |plus:op=fQ->jQ op
 |minus:op=fJ->jQ op
 |times:op=eG->jQ op
 |less:op=gC->jQ op
 |over:op=eY->jQ op
theorem jQ.op{op:Str}(h:jQ op):kI op:=by
 rcases h with rfl|rfl|rfl|rfl|rfl
 .exact uZ
 .exact qC
 .exact qB
 .exact u3
 .exact oE
theorem DW(n:Nat){op:Str}(h:jQ op)(a b:Int)(ha:a.natAbs<2 ^ 64)(hb:b.natAbs<2 ^ 64):cF P (n+60) false 7 [vK op,.fz<|.list [.int a,.int b]]=iL (oH op a b):=by
 rcases h with rfl|rfl|rfl|rfl|rfl
 .rw[tw];exact fj n uZ _ _ _ (D1 _ a b) λv e=>by refine O (jk e).symm ?_;rfl
 .rw[oJ];exact fj n qC _ _ _ (zB _ a b) λv e=>by refine O (jk e).symm ?_;rfl
 .rw[oI];exact fj n qB _ _ _ (zy _ a b ha) λv e=>by refine O (jk e).symm ?_;rfl
 .rw[tA,<- Hi];exact fj n u3 _ _ _ (D3 _ a b) λv e=>by refine O (jk e).symm ?_;rfl
 .rw[tx];by_cases q:b=0
  .subst q;exact O (YX rfl) (fj n oE _ _ _ (zA _ a) λv e=>by exact mI e)
  .exact O (YY q) (fj n oE _ _ _ (D2 _ a b hb q) λv e=>by refine O (jk e).symm ?_;rfl)
theorem tn(n:Nat){op:Str}(h:jQ op)(a b:D)(hh:lX .tup a=true\/(lX .tup a=false/\lX .tup b=true)):cF P (n+60) false 7 [vK op,.fz<|.list [a,b]]=iL (.error bz):=
 fj n h.op _ _ _ (MK _ _ a b hh) λv e=>by exact mI e
inductive Gm(op:Str):Prop
 |num:jQ op->Gm op
 |same:op=gB->Gm op
 |join:op=fR->Gm op
 |down:op=cB->Gm op
 |first:op=bq->Gm op
 |rest:op=cA->Gm op
 |empty:op=bn->Gm op
 |list:op=aX->Gm op
theorem Qq{op:Str}(h:gQ op=true):Gm op:=by
 unfold gQ at h;rcases or_eq_true_iff.mp h with h|h
 .have:=cL.mp h
  simp only[Zv,Zp,or_false]at this;rcases this with rfl|rfl|rfl|rfl|rfl|rfl|rfl
  .exact .num (.plus rfl)
  .exact .num (.minus rfl)
  .exact .num (.times rfl)
  .exact .num (.over rfl)
  .exact .num (.less rfl)
  .exact .same rfl
  .exact .join rfl
 .refine ak λG g=>?_;rcases or_eq_true_iff.mp h with h|h
  .refine g ?_;have:=cL.mp h;simp only[Zv,Zp,or_false]at this;rcases this with rfl|rfl|rfl|rfl
   .exact .down rfl
   .exact .first rfl
   .exact .rest rfl
   .exact .empty rfl
  .exact g (.list<|YW h)
theorem fN{op:Str}(h:bH op k=true)(h1:op≠aX)(h2:dM op ja=true):k=2:=by unfold bH at h;rw[YY h1,YX h2]at h;have:=eq_of_beq h;exact(Zk (Ln [k] (.w .x<|.c 2) [Gj (.n .x)<|.c 2] rfl this)<|Ln [k] (.w (.c 2) .x) [Gk (.n .x)<|.c 2] rfl this)
theorem dP{op:Str}(h:bH op k=true)(h1:op≠aX)(h2:dM op ja=false):k=1:=by unfold bH at h;rw[YY h1,YY (by refine O h2 ?_;decide)]at h;have:=eq_of_beq h;exact(Zk (Ln [k] (.w .x<|.c 1) [Gj (.n .x)<|.c 1] rfl this)<|Ln [k] (.w (.c 1) .x) [Gk (.n .x)<|.c 1] rfl this)
theorem Qe{vs:VX}(h:∀v∈vs,Vg v):cR vs=true/\cZ vs<=50:=by induction vs with
 |nil=>exact⟨rfl,Y7 _⟩
 |cons d X ih=>have q:=ih<|eA h;exact⟨by show(eo d&&cR X)=true;refine O q.1<|O (h d Zt).g ?_;rfl,max_le.mpr ⟨(h d Zt).dp,q.2⟩⟩
theorem two{vs:VX}(h:∀d∈vs,Vg d)(hl:vs.length=2):∃x y,vs=[x,y]/\Vg x/\Vg y:=by refine er (Ea hl) λx y q=>?_;subst q;exact⟨x,y,rfl,h x<|.head _,h y<|.tail _<|.head _⟩
theorem one{vs:VX}(h:∀d∈vs,Vg d)(hl:vs.length=1):∃x,vs=[x]/\Vg x:=by refine aB (Nb hl) λx q=>?_;subst q;exact⟨x,rfl,h x<|.head _⟩
theorem pC(vs:VX):dn aX vs=cG (.tuple vs):=YX rfl
theorem pE(a:D):dn cB [a]=nO a:=(YY (by decide)).trans<|YX rfl
theorem md(a:D):dn bq [a]=hW bq a:=(YY (by decide)).trans<|YY (by decide)
theorem pB(a:D):dn cA [a]=hW cA a:=(YY (by decide)).trans<|YY (by decide)
theorem me(a:D):dn bn [a]=hW bn a:=(YY (by decide)).trans<|YY (by decide)
theorem pA(a b:D):dn gB [a,b] = .ok (.int (if eS a b then 1 else 0)):=(YY (by decide)).trans<|YX rfl
theorem pD(a b:D):dn fR [a,b]=vc a b:=(YY (by decide)).trans<|(YY (by decide)).trans<|YX rfl
theorem jQ.pair{op:Str}(h:jQ op):dM op ja=true:=by rcases h with rfl|rfl|rfl|rfl|rfl<;>decide
theorem FI(n:Nat){op:Str}{vs:VX}(ho:gQ op=true)(hl:bH op vs.length=true)(hv:∀v∈vs,Vg v):cF P (n+60) false 7 [vK op,.fz<|.list vs]=iL (dn op vs):=by
 rcases Qq ho with h|rfl|rfl|rfl|rfl|rfl|rfl|rfl
 .obtain⟨a,b,rfl,ha,hb⟩:=two hv<|fN hl h.op.l h.pair;rw[uo h.op];rcases ha.k with⟨i,rfl,hi⟩|⟨s,rfl,_⟩<;>rcases hb.k with⟨j,rfl,hj⟩|⟨t,rfl,_⟩
  .exact DW n h i j hi hj
  .exact tn n h _ _ (.inr ⟨rfl,rfl⟩)
  .exact tn n h _ _ (.inl rfl)
  .exact tn n h _ _ (.inl rfl)
 .obtain⟨a,b,rfl,ha,hb⟩:=two hv<|fN hl (by decide) (by decide);rw[pA];exact xA n a b ha hb
 .obtain⟨a,b,rfl,ha,hb⟩:=two hv<|fN hl (by decide) (by decide);rw[pD];exact xC n a b ha hb
 .obtain⟨a,rfl,ha⟩:=one hv<|dP hl (by decide) (by decide);rw[pE];exact xD n a ha
 .obtain⟨a,rfl,ha⟩:=one hv<|dP hl (by decide) (by decide);rw[md];refine ii n (by decide) (by decide) (by decide) a _ ?_;rcases ha.k with⟨i,rfl,hi⟩|⟨s,rfl,_⟩
  .exact tH _ _ i
  .exact Ae _ s
 .obtain⟨a,rfl,ha⟩:=one hv<|dP hl (by decide) (by decide);rw[pB];refine ii n (by decide) (by decide) (by decide) a _ ?_;rcases ha.k with⟨i,rfl,hi⟩|⟨s,rfl,_⟩
  .exact tH _ _ i
  .exact Ed _ s
 .obtain⟨a,rfl,ha⟩:=one hv<|dP hl (by decide) (by decide);rw[me];refine ii n (by decide) (by decide) (by decide) a _ ?_;rcases ha.k with⟨i,rfl,hi⟩|⟨s,rfl,_⟩
  .exact tH _ _ i
  .exact Af _ s
 .rw[pC];exact xB n vs (Qe hv).2
noncomputable abbrev eV(d:D):Option (VW Rv×List Mv.Slot):=some (.ok<|.fz d,[])
noncomputable abbrev eJ(r:VW D):D:=match r with
 |.ok d=>.tuple [.bool true,d]
 |.error e=>.tuple [.bool false,.str e]
theorem H0(n:Nat)(a0:Slot)(ih:∀d:D,dep d<n->cF P n false 33 [.fz d]=eV (.int<|wt d)):∀(X:VX)(s1:Slot),cZ X<n->
  bB ⟨P.glob,cF P n,[],false⟩ [a0,s1] (.call 33 [ae 1]) (.one 1) [] X=some (.ok<|X.map λd=>.int<|wt d,[a0,.no]):=by
 intro X;induction X with
 |nil=>exact @λs1 aa=>by rw[aL];rfl
 |cons d X IH=>intro s1 h;have h:max (dep d) (cZ X)<n:=h;have q:=IH (.fz d)<|Ze (le_max_right _ _) h;have e:=ih d<|Ze (le_max_left _ _) h;rw[Zz];exact jS [.c 0 e,.cp 0 q] rfl
theorem C8:∀(X:VX)(a:Int),sR a (X.map λd=>.int<|wt d)=some (.int<|a+dZ X):=by intro X;induction X with
 |nil=>exact @λa=>by show some (int a)=some (.int<|a+((0:Nat):Int));rw[Int.natCast_zero,ZY]
 |cons d X ih=>
  intro a;show sR (a+wt d) _=some (.int<|a+((wt d+dZ X:Nat):Int))
  rw[ih,natCast_add,Int.add_assoc]
theorem v5:∀(n:Nat)(d:D),dep d<n->cF P n false 33 [.fz d]=eV (.int<|wt d):=by intro n;induction n with
 |zero=>intro d h;exact absurd h<|not_lt_zero _
 |succ n ih=>intro d h;cases d with
  |tuple X=>
   have e:jm .sum [.list<|X.map λd=>.int<|wt d]=some (.fz<|.int<|dZ X):=by rw[O1,C8,ZR];rfl
   have e':op2 .add (.int 1) (.int<|dZ X)=some (.fz<|.int<|wt<|.tuple X):=by
    show some (Rv.fz<|.int<|1+(dZ X:Int))=some (.fz<|.int ((1+dZ X:Nat):Int))
    rw[natCast_add];rfl
   exact aG [.cp 3<|(H0 n (.fz<|.tuple X) ih X .no<|lt_of_succ_lt_succ h),.v 0 e,.v 0 e'] rfl
  |int i=>show _=eV (.int 1);exact aG [] rfl
  |none=>show _=eV (.int 1);exact aG [] rfl
  |bool b=>show _=eV (.int 1);exact aG [] rfl
  |str b=>show _=eV (.int 1);exact aG [] rfl
  |list b=>show _=eV (.int 1);exact aG [] rfl
  |dict b=>show _=eV (.int 1);exact aG [] rfl
theorem rn{d:D}(h:mM d=true):cG d = .ok d:=by unfold cG;rw[h]
theorem ro{d:D}(h:mM d=false):cG d = .error cH:=by unfold cG;rw[h]
theorem qR(n:Nat)(X:VX)(hg:cR X=true)(hd:cZ X<=50):cF P (n+53) false 34 [.fz<|.tuple X]=eV (eJ<|cG<|.tuple X):=by
 have e:=v5 (n+52) (.tuple X) (by show cZ X+1<n+52;exact(L1 [cZ X,n] (.p 1<|.p 1 .x) (.p 52 .y) .x (.c 50) rfl hd));have hb:mM (.tuple X)=decide (wt (.tuple X)<=50):=by show(cR X&&_)=_;refine O hg ?_;rfl
 by_cases q:wt (.tuple X)<=50
 .refine O (rn<|hb.trans<|Y0 q) ?_;have q1:aI .le (.int<|wt<|.tuple X) (.int 50)=some true:=by rw[F1,Y0 (by exact(Ln [wt<|tuple X] (.i (.n .x)<|.c 50) [Gl .x<|.c 50] rfl q))]
  have q2:aI .gt (.int<|wt<|.tuple X) (.int 50)=some false:=by rw[B2,Y1 (by exact(λJr=>(Lf [wt<|tuple X] [Gl .x<|.c 50,Gi (.p 1<|.c 50)<|.n .x] rfl q Jr)))]
  exact aG [.c 2 e,.b 0 q1,.c 0 e,.b 0 q2] rfl
 .refine O (ro<|hb.trans<|Y1 q) ?_;have q1:aI .le (.int<|wt<|.tuple X) (.int 50)=some false:=by rw[F1,Y1 (by exact(λzQ=>(Lf [wt<|tuple X] [Gl (.p 1<|.c 50) .x,Gi (.n .x)<|.c 50] rfl (Nat.not_le.mp q) zQ)))]
  have q2:aI .gt (.int<|wt<|.tuple X) (.int 50)=some true:=by rw[B2,Y0 (by exact(Ln [wt<|tuple X] (.i (.p 1<|.c 50)<|.n .x) [Gl (.p 1<|.c 50) .x] rfl<|Nat.not_le.mp q))]
  exact aG [.c 2 e,.b 0 q1,.c 0 e,.b 0 q2] rfl
theorem jy(m:Nat)(i:Int):cF P (m+1) false 34 [.fz<|.int i]=eV (eJ<|cG<|.int i):=by
 have hb:mM (.int i)=decide ((i.natAbs:Int)<1000000000000000000):=by
  show(ek i&&decide ((1:Nat)<=50))=_
  unfold ek;by_cases q:(i.natAbs:Int)<1000000000000000000
  .rw[Y0 q];refine O (Y0 (by exact(Or.elim (Int.le_total 0 i) (λtE=>(Li [i] (.i (.p 1<|.g<|.c 1000000000000000000) .x) [Gi (.c 0) .x] rfl tE)) (λtE=>(dJ [i.natAbs] [i] 1 (.i (.p 1<|.g<|.c 1000000000000000000) .x) [Gi (.p 1<|.n .x)<|.c 1000000000000000000,Gk (.n .x)<|.g .x] rfl q<|Int.ofNat_natAbs_of_nonpos (a:=i) tE))))) ?_;refine O (Y0 (by exact(Or.elim (Int.le_total 0 i) (λtE=>(dJ [i.natAbs] [i] 1 (.i (.p 1 .x)<|.c 1000000000000000000) [Gi (.p 1<|.n .x)<|.c 1000000000000000000,Gk (.n .x) .x] rfl q<|ZW (a:=i) tE)) (λtE=>(Li [i] (.i (.p 1 .x)<|.c 1000000000000000000) [Gi .x<|.c 0] rfl tE))))) ?_;rfl
  .rw[Y1 q];by_cases q1: -1000000000000000000<i
   .refine O (Y1 (p:=i<1000000000000000000) (λMQ=>(Or.elim (Int.le_total 0 i) (λtC=>(lT [i.natAbs] [i] [Gi (.c 1000000000000000000)<|.n .x,Gi (.p 1 .x)<|.c 1000000000000000000,Gj (.n .x) .x] rfl (Int.not_lt.mp q) MQ<|ZW (a:=i) tC)) (λtC=>(lT [i.natAbs] [i] [Gi (.c 1000000000000000000)<|.n .x,Gi (.p 1 .x)<|.c 1000000000000000000,Gj (.n .x) .x] rfl (Int.not_lt.mp q) MQ<|ZW (a:=i)<|dJ [i.natAbs] [i] 0 (.i (.c 0) .x) [Gi (.c 1000000000000000000)<|.n .x,Gi (.p 1<|.g<|.c 1000000000000000000) .x,Gj (.n .x)<|.g .x] rfl (Int.not_lt.mp q) q1<|Int.ofNat_natAbs_of_nonpos (a:=i) tC))))) ?_;rw[Bool.and_false];rfl
   .refine O (Y1 q1) ?_;rfl
 have e0:=O2 i;generalize ha:(i.natAbs:Int)=a at hb e0;clear ha;by_cases q:a<1000000000000000000
 .refine O (rn<|hb.trans<|Y0 q) ?_;have q1:aI .lt (.int a) (.int 1000000000000000000)=some true:=by rw[uz,Y0 q]
  have q2:aI .ge (.int a) (.int 1000000000000000000)=some false:=by rw[K2,Y1 (by exact(λzQ=>(lT [] [a] [Gi (.p 1 .x)<|.c 1000000000000000000,Gi (.c 1000000000000000000) .x] rfl q zQ)))]
  exact aG [.v 2 e0,.b 1 q1,.v 0 e0,.b 1 q2] rfl
 .refine O (ro<|hb.trans<|Y1 q) ?_;have q1:aI .lt (.int a) (.int 1000000000000000000)=some false:=by rw[uz,Y1 q]
  have q2:aI .ge (.int a) (.int 1000000000000000000)=some true:=by rw[K2,Y0 (by exact(Li [a] (.i (.c 1000000000000000000) .x) [Gi (.c 1000000000000000000) .x] rfl<|Int.not_lt.mp q))]
  exact aG [.v 2 e0,.b 1 q1,.v 0 e0,.b 1 q2] rfl
theorem Aj(m:Nat)(op a b:D)(h:lX .tup a=true\/(lX .tup a=false/\lX .tup b=true)):cF P (m+1) false 35 [.fz op,.fz a,.fz b]=eV (eJ<|.error bz):=by
 rcases h with h|⟨h,h'⟩
 .exact aG [.t 1 h,.t 0 h] rfl
 .exact aG [.t 1 h,.t 1 h'] rfl
theorem Ai(m:Nat)(a:Int):cF P (m+1) false 35 [vK eY,.fz<|.int a,.fz<|.int 0]=eV (eJ<|.error bU):=by exact aG [] rfl
theorem Ej(m:Nat)(a b:Int)(h:b.natAbs<2 ^ 64)(h0:b≠0):cF P (m+2) false 35 [vK eY,.fz<|.int a,.fz<|.int b]=eV (eJ<|cG<|.int<|a.fdiv b):=by
 have e:op2 .fdiv (.int a) (.int b)=some (.fz<|.int<|a.fdiv b):=by rw[oG];exact O (YX ⟨h0,h⟩) rfl
 have q:aI .eq (.int b) (.int 0)=some false:=by rw[jL];exact O (Y1 h0) rfl
 exact aG [.b 6 q,.v 1 e,.c 0<|(jy m<|a.fdiv b)] rfl
theorem El(m:Nat)(a b:Int):cF P (m+1) false 35 [vK gC,.fz<|.int a,.fz<|.int b]=eV (eJ<|.ok<|.int (if a<b then 1 else 0)):=by
 by_cases q:a<b
 .exact O (YX q) (aG [.b 8<|tG q] rfl)
 .exact O (YY q) (aG [.b 8<|jd q] rfl)
theorem Ei(m:Nat)(a b:Int)(h:a.natAbs<2 ^ 64):cF P (m+2) false 35 [vK fQ,.fz<|.int a,.fz<|.int b]=eV (eJ<|cG<|.int<|a+b):=by exact aG [.v 10<|(hS h:op2 .mul (.int a) (.int b)=some (.fz<|.int<|a*b)),.c 2<|(jy m<|a+b)] rfl
theorem Ak(m:Nat)(a b:Int)(h:a.natAbs<2 ^ 64):cF P (m+2) false 35 [vK fJ,.fz<|.int a,.fz<|.int b]=eV (eJ<|cG<|.int<|a-b):=by exact aG [.v 10<|(hS h:op2 .mul (.int a) (.int b)=some (.fz<|.int<|a*b)),.c 2<|(jy m<|a-b)] rfl
theorem Ah(m:Nat)(a b:Int)(h:a.natAbs<2 ^ 64):cF P (m+2) false 35 [vK eG,.fz<|.int a,.fz<|.int b]=eV (eJ<|cG<|.int<|a*b):=by exact aG [.v 10<|(hS h:op2 .mul (.int a) (.int b)=some (.fz<|.int<|a*b)),.c 2<|(jy m<|a*b)] rfl
theorem Jz(m:Nat){op:Str}(h:jQ op)(a b:Int)(ha:a.natAbs<2 ^ 64)(hb:b.natAbs<2 ^ 64):cF P (m+2) false 35 [vK op,.fz<|.int a,.fz<|.int b]=eV (eJ<|oH op a b):=by
 rcases h with rfl|rfl|rfl|rfl|rfl
 .rw[tw];exact Ei m a b ha
 .rw[oJ];exact Ak m a b ha
 .rw[oI];exact Ah m a b ha
 .rw[tA];exact El _ a b
 .rw[tx];by_cases q:b=0
  .subst q;exact O (YX rfl)<|Ai _ a
  .exact O (YY q) (Ej m a b hb q)
theorem D8(m:Nat)(a:D)(h:Vg a):cF P (m+1) false 36 [vK cB,.fz a]=eV (eJ<|nO a):=by
 rcases h.k with⟨i,rfl,_⟩|⟨t,rfl,_⟩
 .show _=eV (eJ (if i<1 then .error c8 else .ok (.int<|i-1)))
  by_cases q:i<1
  .refine O (YX q) ?_;have q1:aI .gt (.int i) (.int 0)=some false:=by rw[B2,Y1 (by exact(λJs=>(lT [] [i] [Gi (.p 1 .x)<|.c 1,Gi (.p 1<|.c 0) .x] rfl q Js)))]
   have q2:aI .le (.int i) (.int 0)=some true:=by rw[F1,Y0 (by exact(Li [i] (.i .x<|.c 0) [Gi (.p 1 .x)<|.c 1] rfl q))]
   exact aG [.b 4 q1,.b 1 q2] rfl
  .refine O (YY q) ?_;have q1:aI .gt (.int i) (.int 0)=some true:=by rw[B2,Y0 (by exact(Li [i] (.i (.p 1<|.c 0) .x) [Gi (.c 1) .x] rfl<|Int.not_lt.mp q))]
   have q2:aI .le (.int i) (.int 0)=some false:=by rw[F1,Y1 (by exact(λQA=>(lT [] [i] [Gi (.c 1) .x,Gi .x<|.c 0] rfl (Int.not_lt.mp q) QA)))]
   exact aG [.b 4 q1,.b 1 q2] rfl
 .exact aG [] rfl
theorem lt_int(m:Nat){op:Str}(h:op≠cB)(i:Int):cF P (m+1) false 36 [vK op,.fz<|.int i]=eV (eJ<|.error cu):=by exact aG [.b 0<|(kK h)] rfl
theorem zY(m:Nat)(t:VX):cF P (m+1) false 36 [vK bn,.fz<|.tuple t]=eV (eJ<|hW bn<|.tuple t):=by cases t with
 |nil=>show _=eV (eJ<|.ok<|.int 1);exact aG [] rfl
 |cons d r=>
  have q:aI .eq (.int ((d::r).length:Nat)) (.int 0)=some false:=by rw[cD];exact Y2 some<|LU d r
  exact aG [] rfl
theorem zX(m:Nat)(t:VX):cF P (m+1) false 36 [vK bq,.fz<|.tuple t]=eV (eJ<|hW bq<|.tuple t):=by cases t with
 |nil=>show _=eV (eJ<|.error bY);exact aG [] rfl
 |cons d r=>
  have q:aI .eq (.int ((d::r).length:Nat)) (.int 0)=some false:=by rw[cD];exact Y2 some<|LU d r
  exact aG [] rfl
theorem D7(m:Nat)(t:VX):cF P (m+1) false 36 [vK cA,.fz<|.tuple t]=eV (eJ<|hW cA<|.tuple t):=by cases t with
 |nil=>show _=eV (eJ<|.error bY);exact aG [] rfl
 |cons d r=>
  have q:aI .eq (.int ((d::r).length:Nat)) (.int 0)=some false:=by rw[cD];exact Y2 some<|LU d r
  exact aG [.v 12<|jr d r] rfl
theorem NA(x:Str):aI .isin (.str x) (.tuple [(S [102,105,114,115,116]),(S [114,101,115,116]),(S [101,109,112,116,121]),(S [100,111,119,110])])=some (dM x KI):=AB x
theorem Qp{x k:Str}(h:x≠k):aI .ne (.str x) (.str k)=some true:=by rw[mn,e_strD];refine O (Y1 h) ?_;rfl
theorem oQ(n:Nat){op:Str}(h:jQ op)(a b:D)(r:D)(f:cF P (n+59) false 35 [vK op,.fz a,.fz b]=eV r):cF P (n+60) false 37 [vK op,.fz<|.list [a,b]]=eV r:=by have q1:=kK h.op.l;have q2:=kK h.op.e;have q4:=Qp h.op.j;have q3:=(NA op).trans (by exact O (show dM op KI=false from by rcases h with rfl|rfl|rfl|rfl|rfl<;>decide) rfl:_=some false);exact aG [.b 0 q1,.b 1 q2,.b 1 q3,.b 1 q4,.c 3 f] rfl
theorem iC(n:Nat){op:Str}(h1:op≠aX)(h2:op≠gB)(h3:dM op KI=true)(a:D)(r:D)(f:cF P (n+59) false 36 [vK op,.fz a]=eV r):cF P (n+60) false 37 [vK op,.fz<|.list [a]]=eV r:=by have q1:=kK h1;have q2:=kK h2;have q3:=(NA op).trans (by exact O h3 rfl:_=some true);exact aG [.b 0 q1,.b 1 q2,.b 1 q3,.c 2 f] rfl
theorem Ef(n:Nat)(vs:VX)(r:D)(f:cF P (n+59) false 34 [.fz<|.tuple vs]=eV r):cF P (n+60) false 37 [vK aX,.fz<|.list vs]=eV r:=by exact aG [.c 3 f] rfl
theorem Ec(n:Nat)(a b:D)(ha:Vg a)(hb:Vg b):cF P (n+60) false 37 [vK gB,.fz<|.list [a,b]]=eV (eJ<|.ok<|.int (if eS a b then 1 else 0)):=by have e:=vC ha hb;cases hs:eS a b with
 |true=>rw[hs]at e;show _=eV (eJ<|.ok<|.int 1);exact aG [.b 6 e] rfl
 |false=>rw[hs]at e;show _=eV (eJ<|.ok<|.int 0);exact aG [.b 6 e] rfl
theorem Eg(n:Nat)(a b:D)(ha:Vg a)(hb:Vg b):cF P (n+60) false 37 [vK fR,.fz<|.list [a,b]]=eV (eJ<|vc a b):=by
 rcases hb.k with⟨i,rfl,_⟩|⟨t,rfl,hg,hw⟩
 .exact aG [] rfl
 .have hl:t.length<=49:=Zg (oP t) hw;have e:op2 .add (.tuple [a]) (.tuple t)=some (.fz<|.tuple (a::t)):=by
   show(if [a].length+t.length<=Sz then some (Rv.fz<|.tuple<|[a]++t) else none)=_
   refine O (YX (by show 1+t.length<=16777216;exact(L1 [t.length] (.a (.c 1) .x) (.c 16777216) .x (.c 49) rfl hl))) ?_;rfl
  have f:=qR (n+6) (a::t) (by show(eo a&&cR t)=true;refine O ha.g<|O hg ?_;rfl) (by exact max_le.mpr ⟨ha.dp,Zg (Zg (jK t) hw) (by decide)⟩);exact aG [.v 14 e,.c 0 f] rfl
theorem Ad(n:Nat){op:Str}{vs:VX}(ho:gQ op=true)(hl:bH op vs.length=true)(hv:∀v∈vs,Vg v):cF P (n+60) false 37 [vK op,.fz<|.list vs]=eV (eJ<|dn op vs):=by
 rcases Qq ho with h|rfl|rfl|rfl|rfl|rfl|rfl|rfl
 .obtain⟨a,b,rfl,ha,hb⟩:=two hv<|fN hl h.op.l h.pair;rw[uo h.op];rcases ha.k with⟨i,rfl,hi⟩|⟨s,rfl,_⟩<;>rcases hb.k with⟨j,rfl,hj⟩|⟨t,rfl,_⟩
  .exact oQ n h _ _ _ (Jz (n+57) h i j hi hj)
  .exact oQ n h _ _ _ (Aj _ _ _ _<|.inr ⟨rfl,rfl⟩)
  .exact oQ n h _ _ _ (Aj _ _ _ _<|.inl rfl)
  .exact oQ n h _ _ _ (Aj _ _ _ _<|.inl rfl)
 .obtain⟨a,b,rfl,ha,hb⟩:=two hv<|fN hl (by decide) (by decide);rw[pA];exact Ec n a b ha hb
 .obtain⟨a,b,rfl,ha,hb⟩:=two hv<|fN hl (by decide) (by decide);rw[pD];exact Eg n a b ha hb
 .obtain⟨a,rfl,ha⟩:=one hv<|dP hl (by decide) (by decide);rw[pE];exact iC n (by decide) (by decide) (by decide) a _<|D8 _ a ha
 .obtain⟨a,rfl,ha⟩:=one hv<|dP hl (by decide) (by decide);rw[md];refine iC n (by decide) (by decide) (by decide) a _ ?_;rcases ha.k with⟨i,rfl,hi⟩|⟨s,rfl,_⟩
  .exact lt_int _ (by decide) i
  .exact zX _ s
 .obtain⟨a,rfl,ha⟩:=one hv<|dP hl (by decide) (by decide);rw[pB];refine iC n (by decide) (by decide) (by decide) a _ ?_;rcases ha.k with⟨i,rfl,hi⟩|⟨s,rfl,_⟩
  .exact lt_int _ (by decide) i
  .exact D7 _ s
 .obtain⟨a,rfl,ha⟩:=one hv<|dP hl (by decide) (by decide);rw[me];refine iC n (by decide) (by decide) (by decide) a _ ?_;rcases ha.k with⟨i,rfl,hi⟩|⟨s,rfl,_⟩
  .exact lt_int _ (by decide) i
  .exact zY _ s
 .rw[pC];exact Ef n vs _<|qR (n+6) vs (Qe hv).1 (Qe hv).2
theorem E6{d v:D}(h:cG d = .ok v):Vg v:=by unfold cG at h;cases hf:mM d with
 |true=>rw[hf]at h;obtain rfl:=jk h;exact E7 hf
 |false=>rw[hf]at h;cases h
theorem H4(b:Bool):Vg (.int (if b then 1 else 0)):=by cases b<;>exact⟨by decide,by decide⟩
noncomputable abbrev pi:VT:=sJ
def Lx:VW D->Prop
 |.ok v=>Vg v
 |.error e=>e∈pi
theorem gE(d:D):Lx (cG d):=by cases hf:cG d with
 |ok v=>exact E6 hf
 |error e=>unfold cG at hf;cases hb:mM d with
  |true=>rw[hb]at hf;exact Kr hf
  |false=>rw[hb]at hf;cases hf;show cH∈pi;decide
theorem oO(op:Str){a:D}(ha:Vg a):Lx (hW op a):=by
 rcases ha.k with⟨i,rfl,_⟩|⟨t,rfl,hg,hw⟩
 .show cu∈pi;decide
 .cases t with
  |nil=>
   show Lx (if op=bn then Except.ok (int 1) else Except.error bY)
   by_cases q:op=bn
   .exact O (YX q) (H4 true)
   .refine O (YY q) ?_;show bY∈pi;decide
  |cons d r=>
   show Lx (if op=bn then Except.ok (int 0) else if op=bq then Except.ok d else Except.ok (.tuple r))
   have hg:(eo d&&cR r)=true:=hg;rw[Z8]at hg;by_cases q:op=bn
   .exact O (YX q) (H4 false)
   .refine O (YY q) ?_;by_cases q1:op=bq
    .exact O (YX q1) (⟨hg.1,by exact(L1 [wt d,dZ r] .x (.c 50) (.a .x .y) (.c 49) rfl hw)⟩)
    .exact O (YY q1) (⟨hg.2,by show 1+dZ r<=50;exact(Ln [dZ r,wt d] (.w (.a (.c 1) .x)<|.c 50) [Gl (.a .y .x)<|.c 49,Gl (.c 1) .y] rfl hw<|sG d)⟩)
theorem BN{op:Str}{vs:VX}(ho:gQ op=true)(hl:bH op vs.length=true)(hv:∀v∈vs,Vg v):Lx (dn op vs):=by
 rcases Qq ho with hn|rfl|rfl|rfl|rfl|rfl|rfl|rfl
 .obtain⟨a,b,rfl,ha,hb⟩:=two hv<|fN hl hn.op.l hn.pair;rw[uo hn.op];have no:bz∈pi:=by decide
  rcases ha.k with⟨i,rfl,hi⟩|⟨s,rfl,_⟩<;>rcases hb.k with⟨j,rfl,hj⟩|⟨t,rfl,_⟩<;>first|exact no|skip
  show Lx (oH op i j)
  rcases hn with rfl|rfl|rfl|rfl|rfl
  .rw[tw];exact gE _
  .rw[oJ];exact gE _
  .rw[oI];exact gE _
  .rw[tA,<- Hi];exact gE _
  .rw[tx];by_cases q:j=0
   .refine O (YX q) ?_;show bU∈pi;decide
   .exact O (YY q) (gE _)
 .obtain⟨a,b,rfl,ha,hb⟩:=two hv<|fN hl (by decide) (by decide);rw[pA];exact H4 _
 .obtain⟨a,b,rfl,ha,hb⟩:=two hv<|fN hl (by decide) (by decide);rw[pD];rcases hb.k with⟨j,rfl,hj⟩|⟨t,rfl,_⟩
  .show cu∈pi;decide
  .exact gE _
 .obtain⟨a,rfl,ha⟩:=one hv<|dP hl (by decide) (by decide);rw[pE];have hg:=ha.g;rcases ha.k with⟨i,rfl,hi⟩|⟨t,rfl,_⟩
  .show Lx (if i<1 then Except.error c8 else Except.ok (.int<|i-1))
   by_cases q:i<1
   .refine O (YX q) ?_;show c8∈pi;decide
   .refine O (YY q) ?_;have hg:ek i=true:=hg;unfold ek at hg;rw[Z8]at hg;have g2:=YW hg.2;exact⟨by show ek (i-1)=true;unfold ek;refine O (Y0 (by exact(Li [i] (.i (.p 1<|.g<|.c 1000000000000000000)<|.s .x<|.c 1) [Gi (.c 1) .x] rfl<|Int.not_lt.mp q)))<|O (Y0 (by exact(Li [i] (.i (.p 1<|.s .x<|.c 1)<|.c 1000000000000000000) [Gi (.p 1 .x)<|.c 1000000000000000000] rfl g2))) ?_;rfl,by show 1<=50;decide⟩
  .show bz∈pi;decide
 .obtain⟨a,rfl,ha⟩:=one hv<|dP hl (by decide) (by decide);rw[md];exact oO _ ha
 .obtain⟨a,rfl,ha⟩:=one hv<|dP hl (by decide) (by decide);rw[pB];exact oO _ ha
 .obtain⟨a,rfl,ha⟩:=one hv<|dP hl (by decide) (by decide);rw[me];exact oO _ ha
 .rw[pC];exact gE _
end Lq
end
variable {op:PySem.Str}
section
set_option backward.match.sparseCases false
/-! Law 13:HY Making computes,in plain Lean. Both `Making.left` and the law's `_law_left` are walked to `lf`.
A call in the result bears its case (name,known values);Making prints 'f'+str(place of the case in found),the law the case itself. -/
namespace Lq
open PySem Mv
noncomputable abbrev Case:=Str×VX
noncomputable abbrev C:=List Case
inductive R where|val(d:D)|nam(x:Str)|ref(x:Str)|iff(a b e:R)|doo(op:Str)(ps:List R)|call(f:Str)(ks:VX)(ps:List R)
noncomputable abbrev Sf:=C->R×C
noncomputable def R.opn:R->Bool
 |.val _=>false
 |_=>true
noncomputable def R.isRef:R->Bool
 |.ref _=>true
 |_=>false
noncomputable def R.v:R->D
 |.val d=>d
 |_=>.none
open Classical in
noncomputable def gU(c:C)(x:Case):C:=if x∈c then c else c++[x]
inductive Lp where|ret(r:R)(c:C)|next(ks:VX)(os:List R)(o:Bool)(c:C)
noncomputable def bS:VX->List R->Bool->List (Sf×Bool)->C->Lp
 |ks,os,o,[],c=>.next ks os o c
 |ks,os,o,(g,b)::gs,c=>cz ((g c).1.isRef && !o) (.ret (g c).1 (g c).2) (cz b (cz (g c).1.isRef (.ret (.doo aX<|os++[(g c).1]) (g c).2)<|bS (ks++[(g c).1.v]) os o gs (g c).2)
   (bS ks (os++[(g c).1]) (o||(g c).1.opn) gs (g c).2))
noncomputable def sA(op:Str)(ps:List R):R:=match dn op (ps.map R.v) with
 |.ok v=>.val v
 |.error e=>.ref e
noncomputable def Ou(op:Str):Lp->R×C
 |.ret r c=>(r,c)
 |.next _ VM o c=>(cz o (.doo op VM)<|sA op VM,c)
noncomputable def vH(f:Str):Lp->R×C
 |.ret r c=>(r,c)
 |.next ks os _ c=>(.call f ks os,gU c (f,ks))
noncomputable def UB(v:D)(b e:Sf)(c:C):R×C:=match v with
 |.tuple _=>(.ref bz,c)
 |v=>cz (eS v<|.int 0) (e c)<|b c
noncomputable def PJ(b e:Sf):R×C->R×C
 |(.val v,c)=>UB v b e c
 |(.ref x,c)=>(.ref x,c)
 |(r,c)=>(.iff r (b c).1 (e (b c).2).1,(e (b c).2).2)
noncomputable def QO:List Sf->Sf
 |[a,b,e],c=>PJ b e<|a c
 |_,c=>(.val<|.int 0,c)
noncomputable def qs:List Hd->Str->List Bool
 |[],_=>[]
 |h::hs,f=>if h.nm=f then h.wn else qs hs f
mutual
noncomputable def lf(hs:List Hd)(LE:VY):T->Sf
 |.val d=>λc=>(.val d,c)
 |.nam x=>λc=>(match aR LE x with
  |some v=>.val v
  |none=>.nam x,c)
 |.ref x=>λc=>(.ref x,c)
 |.iff ps=>QO<|jl hs LE ps
 |.doo op ps=>λc=>Ou op<|bS [] [] false ((jl hs LE ps).map λf=>(f,false)) c
 |.call f ps=>λc=>vH f<|bS [] [] false ((jl hs LE ps).zip<|qs hs f) c
noncomputable def jl(hs:List Hd)(LE:VY):List T->List Sf
 |[]=>[]
 |t::ts=>lf hs LE t::jl hs LE ts
end
def Rk(c:C):Nat->R->Prop
 |0,_=>False
 |r+1,x=>match x with
  |.val d=>Vg d
  |.nam _=>True
  |.ref _=>True
  |.iff a b e=>Rk c r a/\Rk c r b/\Rk c r e
  |.doo _ ps=>ps.length<=8/\ ∀p∈ps,Rk c r p
  |.call f ks ps=>(f,ks)∈c/\ps.length<=8/\ ∀p∈ps,Rk c r p
theorem Rk.mono{c c':C}(p:c <+:c'):∀{n m:Nat}{r:R},n<=m->Rk c n r->Rk c' m r:=by intro n;induction n with
 |zero=>exact λaa h=>h.elim
 |succ n ih=>intro m r hm h;cases m with
  |zero=>exact(Zb _ hm).elim
  |succ m=>have hm:=Zi hm;cases r with
   |val d=>exact h
   |nam x=>trivial
   |ref x=>trivial
   |iff a b e=>exact⟨ih hm h.1,ih hm h.2.1,ih hm h.2.2⟩
   |doo op ps=>exact⟨h.1,λp hp=>ih hm<|h.2 p hp⟩
   |call f ks ps=>exact⟨p.subset h.1,h.2.1,λp hp=>ih hm<|h.2.2 p hp⟩
structure Gw(U:Case->Prop)(c c':C):Prop where
 pre:c <+:c'
 nd:c.Nodup->c'.Nodup
 ins:(∀x∈c,U x)-> ∀x∈c',U x
structure Gr(U:Case->Prop)(n:Nat)(c:C)(p:R×C):Prop where
 gw:Gw U c p.2
 rk:Rk p.2 n p.1
section
variable {U:Case->Prop}{n m:Nat}{c c1 c2:C}{p:R×C}
theorem Gw.refl:Gw U c c:=⟨prefix_refl c,id,λh=>h⟩
theorem Gw.trans(a:Gw U c c1)(b:Gw U c1 c2):Gw U c c2:=⟨a.pre.trans b.pre,λh=>b.nd<|a.nd h,λh=>b.ins<|a.ins h⟩
theorem D6{x:Case}:x∈gU c x:=by
 unfold gU;by_cases q:x∈c
 .exact O (YX q) q
 .exact O (YY q) (Zw _ Zt)
theorem Gw.add{x:Case}(h:U x):Gw U c (gU c x):=by
 unfold gU;by_cases q:x∈c
 .exact O (YX q) .refl
 .rw[YY q];refine⟨List.prefix_append c [x],λnd=>nodup_append.mpr ⟨nd,List.pairwise_singleton _ _,λa ha b hb e=>q (by refine O (mem_singleton.mp hb).symm<|O e.symm ?_;exact ha)⟩,λH y hy=>?_⟩;rcases mem_append.mp hy with hy|hy
  .exact H y hy
  .exact O (mem_singleton.mp hy) h
end
inductive TV:R->Prop
 |val {v:D}:v∈Sl->TV (.val v)
 |ref {x:Str}:TV (.ref x)
inductive mW(U:Case->Prop)(n:Nat)(c:C)(kk kt:Nat):Lp->Prop
 |ret {r:R} {c':C}:Gr U (n+1) c (r,c')->mW U n c kk kt (.ret r c')
 |next {ks:VX} {os:List R} {o:Bool} {c':C}:Gw U c c'->(∀k∈ks,k∈Sl)->ks.length=kk->ks.length+os.length=kt->(∀x∈os,Rk c' n x)->o=os.any R.opn->mW U n c kk kt (.next ks os o c')
theorem mW.trans{U:Case->Prop}{kk kt:Nat}{c c1:C}{l:Lp}(a:Gw U c c1)(b:mW U n c1 kk kt l):mW U n c kk kt l:=by cases b with
 |ret g=>exact .ret ⟨a.trans g.gw,g.rk⟩
 |next g h1 h2 h3 h4 h5=>exact .next (a.trans g) h1 h2 h3 h4 h5
theorem fK{P:α->Prop}{l:List α}{a:α}(h:∀x∈l,P x)(ha:P a):∀x∈l++[a],P x:=λx hx=>(mem_append.mp hx).elim (h x) λhx=>by exact O (mem_singleton.mp hx) ha
theorem pN{os:List R}{r:R}:(os++[r]).any R.opn=(os.any R.opn||r.opn):=by refine O List.any_append ?_;show(_||(r.opn||false))=_;rw[Bool.or_false]
theorem kg{os:List R}(h:os.any R.opn=false):∀x∈os,x.opn=false:=λx hx=>by rw[List.any_eq_false]at h;exact Bool.eq_false_iff.mpr<|h x hx
theorem rX{U:Case->Prop} :∀(gs:List (Sf×Bool))(ks:VX)(os:List R)(o:Bool)(c:C),(∀g∈gs, ∀c,Gr U n c<|g.1 c)->(∀g∈gs,g.2=true-> ∀c,TV (g.1 c).1)->(∀k∈ks,k∈Sl)->(∀x∈os,Rk c n x)->
  os.length+gs.length<=8->o=os.any R.opn->mW U n c (ks.length+(gs.filter (·.2)).length) (ks.length+os.length+gs.length) (bS ks os o gs c):=by
 intro gs;induction gs with
 |nil=>intro ks os o c _ _ hk ho _ hn;exact .next .refl hk rfl rfl ho hn
 |cons g gs ih=>
  intro ks os o c H HT hk ho hl hn;obtain⟨g,b⟩:=g;have h1:Gr U n c (g c):=H _ Zt c;have h2:b=true->TV (g c).1:=λe=>HT _ Zt e c;have H':∀g∈gs, ∀c,Gr U n c (g.1 c):=(eA H)
  have T1:∀g∈gs,g.2=true-> ∀c,TV (g.1 c).1:=(eA HT)
  have e:bS ks os o ((g,b)::gs) c=cz ((g c).1.isRef && !o) (.ret (g c).1 (g c).2) (cz b (cz (g c).1.isRef (.ret (.doo aX<|os++[(g c).1]) (g c).2)<|bS (ks++[(g c).1.v]) os o gs (g c).2)
   (bS ks (os++[(g c).1]) (o||(g c).1.opn) gs (g c).2)):=rfl
  refine O e ?_;clear e;have lc:∀x∈os,Rk (g c).2 n x:=λx hx=>(ho x hx).mono h1.gw.pre<|Zh _;rw[ZH]at hl ⊢;generalize g c=p at h1 h2 lc ⊢;obtain⟨r,c1⟩:=p;cases q1:r.isRef && !o with
  |true=>exact .ret ⟨h1.gw,h1.rk.mono (prefix_refl _)<|le_succ n⟩
  |false=>cases b with
   |true=>refine mW.trans h1.gw ?_;cases(h2 rfl) with
    |ref=>refine .ret ⟨.refl,?_,fK lc h1.rk⟩;exact O ZI<|Zg (add_le_add_left (Nat.le_add_left 1 _) _) hl
    |@val v hv=>have:=ih (ks++[v]) os o c1 H' T1 (fK hk hv) lc (Zg (add_le_add_left (le_succ _) _) hl) hn;rw[ZI,ZD]at this;exact O (show((((g,true)::gs).filter (·.2)).length)=(gs.filter (·.2)).length+1 from rfl)<|O (show ks.length+((gs.filter (·.2)).length+1)=ks.length+1+(gs.filter (·.2)).length by exact(Zk (L0 [ks.length,(filter (λ(x:Sf×Bool)=>x.snd) gs).length] (.a .x<|.p 1 .y) (.a (.p 1 .x) .y) rfl)<|L0 [ks.length,(filter (λ(x:Sf×Bool)=>x.snd) gs).length] (.a (.p 1 .x) .y) (.a .x<|.p 1 .y) rfl))<|O (show ks.length+os.length+(gs.length+1)=ks.length+1+os.length+gs.length by exact(Zk (L0 [ks.length,os.length,gs.length] (.a (.a .x .y)<|.p 1 .z) (.a (.a (.p 1 .x) .y) .z) rfl)<|L0 [ks.length,os.length,gs.length] (.a (.a (.p 1 .x) .y) .z) (.a (.a .x .y)<|.p 1 .z) rfl)) this
   |false=>refine mW.trans h1.gw ?_;have:=ih ks (os++[r]) (o||r.opn) c1 H' T1 hk (fK lc h1.rk) (by refine O ZI<|O ZD ?_;exact(L1 [os.length,gs.length] (.a (.p 1 .x) .y) (.c 8) (.a .x<|.p 1 .y) (.c 8) rfl hl)) (by exact O pN<|O hn rfl);rw[ZI,ZD]at this;exact O (show((((g,false)::gs).filter (·.2)).length)=(gs.filter (·.2)).length from rfl)<|O (show ks.length+os.length+(gs.length+1)=ks.length+(os.length+1)+gs.length by exact(Zk (L0 [ks.length,os.length,gs.length] (.a (.a .x .y)<|.p 1 .z) (.a (.a .x<|.p 1 .y) .z) rfl)<|L0 [ks.length,os.length,gs.length] (.a (.a .x<|.p 1 .y) .z) (.a (.a .x .y)<|.p 1 .z) rfl)) this
end Lq
end
variable {x y:Lq.Case}{v:Mv.D}{c c' c1:Lq.C}{U:Lq.Case->Prop}{os:List Lq.R}{L2:Lq.Lp}
section
namespace Lq
open PySem Mv
theorem lB{d:D}(h:d∈Sl):Vg d:=(i8<|all_eq_true.mp (show Sl.all CV=true by kernel_rfl) d h).vg
mutual
theorem qU:∀d:D,eo d=true->b9 d=true
 |.int _,_=>rfl
 |.tuple X,h=>nE X h
 |.none,h=>by cases h
 |.bool _,h=>by cases h
 |.str _,h=>by cases h
 |.list _,h=>by cases h
 |.dict _,h=>by cases h
theorem nE:∀X:VX,cR X=true->eX X=true
 |[],_=>rfl
 |d::X,h=>by have h:(eo d&&cR X)=true:=h;rw[Z8]at h;exact and_eq_true_iff.mpr ⟨qU d h.1,nE X h.2⟩
end
theorem Vg.key{d:D}(h:Vg d):b9 d=true:=qU d h.g
theorem Mx:Sl.all (λv=>[bq,cA,cB].all λop=>(gQ op&&bH op 1)&&match dn op [v]with
 |.ok w=>Sl.any λu=>eqv u w
 |.error _=>true)=true:=by kernel_rfl
theorem Dq{w:D}(hv:v∈Sl)(ho:op∈ [bq,cA,cB])(h:dn op [v] = .ok w):w∈Sl:=by
 have q:=all_eq_true.mp (all_eq_true.mp Mx v hv) op ho;rw[Z8,Z8]at q;have q:=h▸q;have g:=BN q.1.1 (vs:=[v]) q.1.2 λx hx=>by exact O (mem_singleton.mp hx)<|lB hv
 rw[h]at g;obtain⟨u,Q⟩:=any_eq_true.mp q.2;exact oS u (lB Q.1).key w (Vg.key g) Q.2▸Q.1
section
variable {hs:List Hd}{kn:VT}{LE:VY}
theorem yx(hh:∀x∈kn, ∃v,aR LE x=some v/\v∈Sl)(h:Tm kn t):∀c,(lf hs LE t c).2=c/\TV (lf hs LE t c).1:=by induction h with
 |val h=>exact λc=>⟨rfl,.val h⟩
 |ref=>exact λc=>⟨rfl,.ref⟩
 |nam h=>
  intro c;refine aB (hh _ h) λv Q=>?_;refine⟨rfl,?_⟩;show TV (match aR LE _ with
  |some v=>R.val v
  |none=>R.nam _)
  rw[Q.1];exact .val Q.2
 |@doo op t hop _ ih=>intro c;have e:lf hs LE (.doo op [t]) c=Ou op (cz ((lf hs LE t c).1.isRef && !false) (.ret (lf hs LE t c).1 (lf hs LE t c).2)<|.next [] [(lf hs LE t c).1] (false||(lf hs LE t c).1.opn) (lf hs LE t c).2):=rfl;refine O e ?_;clear e;have h1:=ih c;generalize lf hs LE t c=p at h1 ⊢;obtain⟨r,c1⟩:=p;obtain⟨rfl,h2⟩:=h1;cases h2 with
  |ref=>exact⟨rfl,.ref⟩
  |@val v hv=>
   refine⟨rfl,?_⟩;show TV (match dn op [v]with
   |.ok v=>R.val v
   |.error e=>R.ref e)
   cases q:dn op [v]with
   |ok w=>exact .val<|Dq hv hop q
   |error e=>exact .ref
structure Us(hs:List Hd)(x:Case):Prop where
 mem:∃h∈hs,h.nm=x.1/\x.2.length=(h.wn.filter id).length
 sl:∀k∈x.2,k∈Sl
theorem gy(ts:List T):jl hs LE ts=ts.map (lf hs LE):=by induction ts with
 |nil=>rfl
 |cons t ts ih=>show _::_=_::_;exact O ih rfl
theorem uQ:∀{hs:List Hd},(hs.map (·.nm)).Nodup->h∈hs->qs hs h.nm=h.wn:=by intro hs;induction hs with
 |nil=>exact λaa m=>by cases m
 |cons g hs ih=>
  intro nd m;rw[Zz,nodup_cons]at nd;show(if g.nm=h.nm then g.wn else qs hs h.nm)=_
  rcases mem_cons.mp m with rfl|m
  .exact YX rfl
  .exact O (YY λe=>nd.1<|mem_map.mpr ⟨h,m,e.symm⟩) (ih nd.2 m)
theorem CM{β:Type}{f:β->Bool}:∀{as:List α}{bs:List β},as.length=bs.length->((as.zip bs).filter λp=>f p.2).length=(bs.filter f).length:=by intro as;induction as with
 |nil=>intro bs h;cases bs with|nil=>rfl|cons b bs=>exact nomatch h
 |cons a as ih=>intro bs h;cases bs with
  |nil=>exact nomatch h
  |cons b bs=>
   have:=ih (bs:=bs)<|Y9 h;show((cz (f b) ((a,b)::(as.zip bs).filter λp=>f p.2)<|(as.zip bs).filter λp=>f p.2)).length=(cz (f b) (b::bs.filter f)<|bs.filter f).length
   cases f b with
   |true=>exact Y2 (· + 1) this
   |false=>exact this
end
theorem gV(h:bH op k=true):k<=8:=by
 by_cases q:op=aX
 .unfold bH at h;rw[YX q]at h;have:=YW h;exact(Ln [k] (.w .x<|.c 8) [Gi (.n .x)<|.c 8] rfl this)
 .cases p:dM op ja with
  |true=>rw[fN h q p];decide
  |false=>rw[dP h q p];decide
theorem Kg{ps:List R}(ho:gQ op=true)(hl:bH op ps.length=true)(h:∀p∈ps,Rk c n p)(hv:∀p∈ps,p.opn=false):Rk c (n+1) (sA op ps):=by
 have g:=BN (vs:=ps.map R.v) ho (by rw[ZG];exact hl) λv wX=>by obtain⟨p,hp,rfl⟩:=mem_map.mp wX;have h1:=h p hp;have h2:=hv p hp;cases p with
  |val d=>cases n with
   |zero=>exact h1.elim
   |succ n=>exact h1
  |_=>cases h2
 unfold sA;cases q:dn op (ps.map R.v) with
 |ok v=>rw[q]at g;exact g
 |error e=>trivial
section
variable {hs:List Hd}{kn:VT}{LE:VY}
theorem BM{r:Nat}(H:∀t∈ps, ∀c,Gr (Us hs) r c<|lf hs LE t c)(h8:ps.length<=8)(c:C):mW (Us hs) r c 0 ps.length (bS [] [] false ((jl hs LE ps).map λf=>(f,false)) c):=by
 have e:((jl hs LE ps).map λf=>(f,false)).length=ps.length:=by rw[ZG,gy,ZG]
 have:=rX (U:=Us hs) (n:=r) ((jl hs LE ps).map λf=>(f,false)) [] [] false c (λg hg=>by
  obtain⟨f,hf,rfl⟩:=mem_map.mp hg;rw[gy]at hf;obtain⟨u,hu,rfl⟩:=mem_map.mp hf;exact H u hu) (λg hg h=>by
  obtain⟨f,hf,rfl⟩:=mem_map.mp hg;cases h) (λaa h=>by cases h) (λaa h=>by cases h) (by refine O e ?_;show 0+ps.length<=8;rw[Y8];exact h8) rfl
 rw[e,List.filter_eq_nil_iff.mpr (λg hg=>by obtain⟨f,hf,rfl⟩:=mem_map.mp hg;exact Z7)]at this;exact(show 0+0+ps.length=ps.length by exact(Zk (L0 [ps.length] (.a (.p 0<|.c 0) .x) .x rfl)<|L0 [ps.length] .x (.a (.p 0<|.c 0) .x) rfl))▸this
theorem pJ{r:Nat}(hh:∀x∈kn, ∃v,aR LE x=some v/\v∈Sl)(H:∀t∈ps, ∀c,Gr (Us hs) r c<|lf hs LE t c)(hl:ps.length=h.wn.length)(rc:∀p∈ps.zip h.wn,p.2=true->Tm kn p.1)(h8:ps.length<=8)(c:C):
  mW (Us hs) r c (h.wn.filter id).length ps.length (bS [] [] false ((jl hs LE ps).zip h.wn) c):=by
 have el:(jl hs LE ps).length=h.wn.length:=by rw[gy,ZG];exact O hl rfl
 have e:((jl hs LE ps).zip h.wn).length=ps.length:=by rw[length_zip,el,min_self];exact O hl rfl
 have:=rX (U:=Us hs) (n:=r) ((jl hs LE ps).zip h.wn) [] [] false c (λg hg=>by
  have hf:=(of_mem_zip (a:=g.1) (b:=g.2) hg).1;rw[gy]at hf;obtain⟨u,Q⟩:=mem_map.mp hf;refine O Q.2.symm ?_;exact H u Q.1) (λg hg h=>by
  rw[gy,zip_map_left]at hg;obtain⟨q,hq,rfl⟩:=mem_map.mp hg;exact λc=>(yx hh (rc q hq h) c).2) (λaa h=>by cases h) (λaa h=>by cases h) (by refine O e ?_;show 0+ps.length<=8;rw[Y8];exact h8) rfl
 rw[e,show(filter (λx=>x.snd)<|(jl hs LE ps).zip h.wn).length=(h.wn.filter id).length from CM (f:=id) el]at this;rw[show(([]:VX).length+(h.wn.filter id).length)=(h.wn.filter id).length from Y8 _,show([]:VX).length+([]:List R).length+ps.length=ps.length from Y8 _]at this;exact this
theorem Ab(nd:(hs.map (·.nm)).Nodup)(hw:∀h∈hs,h.wn.length<=6)(hh:∀x∈kn, ∃v,aR LE x=some v/\v∈Sl)(hv:∀x v,aR LE x=some v->Vg v):∀(r:Nat)(t:T),Ok hs kn r t-> ∀c,Gr (Us hs) r c (lf hs LE t c):=by intro r;induction r with
 |zero=>exact λaa h=>h.elim
 |succ r ih=>intro t ht c;cases t with
  |val d=>exact⟨.refl,Vl.vg ht⟩
  |ref x=>exact⟨.refl,trivial⟩
  |nam x=>
   refine⟨.refl,?_⟩;show Rk c (r+1) (match aR LE x with
   |some v=>R.val v
   |none=>R.nam x)
   cases q:aR LE x with
   |some v=>exact hv x v q
   |none=>trivial
  |iff ps=>
   refine kF (Jw ht.1) λa b e Q=>?_;subst Q;have ha:=ih a (ht.2 a (by simp)) c;have hb:=ih b<|ht.2 b (by simp);have he:=ih e<|ht.2 e (by simp);show Gr (Us hs) (r+1) c (PJ (lf hs LE b) (lf hs LE e)<|lf hs LE a c)
   generalize lf hs LE a c=p at ha ⊢;generalize lf hs LE b=fb at hb ⊢;generalize lf hs LE e=fe at he ⊢;obtain⟨x,c1⟩:=p;have up:∀{c p},Gr (Us hs) r c p->Gr (Us hs) (r+1) c p:=λh=>⟨h.gw,h.rk.mono (prefix_refl _)<|le_succ r⟩
   have d4:Rk c1 r x->Gr (Us hs) (r+1) c (.iff x (fb c1).1 (fe (fb c1).2).1,(fe (fb c1).2).2):=λhx=>
    ⟨(ha.gw.trans (hb c1).gw).trans (he _).gw,hx.mono ((hb c1).gw.pre.trans (he _).gw.pre)<|Zh _,(hb c1).rk.mono (he _).gw.pre<|Zh _,(he _).rk⟩
   cases x with
   |val v=>
    have two:∀t:Bool,Gr (Us hs) (r+1) c (cz t (fe c1)<|fb c1):=λt=>by cases t with
     |true=>exact⟨ha.gw.trans (he c1).gw,(up<|he c1).rk⟩
     |false=>exact⟨ha.gw.trans (hb c1).gw,(up<|hb c1).rk⟩
    cases v with
    |tuple l=>exact⟨ha.gw,trivial⟩
    |none=>exact two<|eS .none<|.int 0
    |bool b=>exact two<|eS (.bool b)<|.int 0
    |int i=>exact two<|eS (.int i)<|.int 0
    |str s=>exact two<|eS (.str s)<|.int 0
    |list l=>exact two<|eS (.list l)<|.int 0
    |dict l=>exact two<|eS (.dict l)<|.int 0
   |ref x=>exact⟨ha.gw,trivial⟩
   |_=>exact d4 ha.rk
  |doo op ps=>
   have:=BM (λu hu=>ih u<|ht.2 u hu) (gV ht.1.2) c;show Gr (Us hs) (r+1) c (Ou op _)
   generalize bS [] [] false ((jl hs LE ps).map λf=>(f,false)) c=l at this ⊢;cases this with
   |ret g=>exact g
   |@next ks os o c' g h1 h2 h3 h4 h5=>
    have hl:os.length=ps.length:=by rw[h2,Y8]at h3;exact h3
    cases o with
    |true=>exact⟨g,(by refine O hl ?_;exact gV ht.1.2),h4⟩
    |false=>exact⟨g,Kg ht.1.1 (by refine O hl ?_;exact ht.1.2) h4<|kg h5.symm⟩
  |call f ps=>
   obtain⟨⟨h,hm,rfl,hl,rc⟩,hp⟩:=ht;have:=pJ hh (λu hu=>ih u<|hp u hu) hl rc (by rw[hl];have:=hw h hm;exact(L1 [h.wn.length] .x (.c 8) .x (.c 6) rfl this)) c;show Gr (Us hs) (r+1) c (vH h.nm<|bS [] [] false ((jl hs LE ps).zip<|qs hs h.nm) c)
   refine O (uQ nd hm) ?_;generalize bS [] [] false ((jl hs LE ps).zip h.wn) c=l at this ⊢;cases this with
   |ret g=>exact g
   |@next ks os o c' g h1 h2 h3 h4 h5=>have ga:Gw (Us hs) c' (gU c' (h.nm,ks)):=.add ⟨⟨h,hm,rfl,h2⟩,h1⟩;refine⟨g.trans ga,D6,?_,λp hp=>(h4 p hp).mono ga.pre<|Zh _⟩;exact(Ln [os.length,ps.length,h.wn.length,ks.length] (.w .x<|.c 8) [Ge .y .z,Ge (.a .u .x) .y,Gl .z<|.c 6] rfl hl h3<|hw h hm)
end
end Lq
end
section
set_option backward.match.sparseCases false
namespace Lq
open PySem Mv
noncomputable def kv:VT->VX->VY
 |p::ps,v::vs=>(.str p,v)::kv ps vs
 |_,_=>[]
theorem Am(vs:VX):kv [] vs=[]:=by cases vs<;>rfl
theorem tJ{x:Str}:∀{ps:VT}{vs:VX},x∈ps->ps.length=vs.length-> ∃v,aR (kv ps vs) x=some v/\v∈vs:=by intro ps vs;induction ps generalizing vs with
 |nil=>exact @λh aa=>by cases h
 |cons p ps ih=>cases vs with
  |nil=>exact @λaa h=>by cases h
  |cons v vs=>
    intro h hl;by_cases q:p=x
    .exact⟨v,by show(if p=x then some v else _)=_;exact O (YX q) rfl,Zt⟩
    .refine aB (ih ((mem_cons.mp h).resolve_left λe=>q e.symm)<|Y9 hl) λu Q=>?_;exact⟨u,by show(if p=x then some v else _)=_;rw[YY q,Q.1],Zu _ Q.2⟩
def PX(VM:VY)(x:Str):Prop:= ∀p∈VM,p.1≠ .str x
theorem kY{x:Str}:∀{VM:VY},PX VM x->aR VM x=none
 |[]=>@λaa=>rfl
 |(k,d)::VM=>@λh=>by have ih:=kY (VM:=VM)<|eA h;cases k with
  |str k=>
   show(if k=x then some d else aR VM x)=none
   exact O (YY λ(e:k=x)=>h (.str k,d) Zt (by exact O e rfl)) ih
  |_=>exact ih
theorem JA:∀(ps:VT)(VM:VY)(vs:VX),ps.Nodup->ps.length=vs.length->(∀p∈ps,PX VM p)->iQ VM (fq (ps.map .str) vs)=some (VM++kv ps vs):=by intro ps;induction ps with
 |nil=>intro VM vs _ hl _;cases vs with
  |nil=>show some VM=_;rw[Am,ZO]
  |cons _ _=>cases hl
 |cons p ps ih=>intro VM vs nd hl h;cases vs with
  |nil=>cases hl
  |cons v vs=>
   show iQ (dO VM p v) _=_
   have e:dO VM p v=VM++[(str p,v)]:=by unfold dO;refine O (kY<|h p Zt) ?_;rfl
   refine O e ?_;rw[ih _ vs (nodup_cons.mp nd).2 (Y9 hl) λq hq=>?_]
   .rw[ZP];rfl
   .intro z hz;rcases mem_append.mp hz with hz|hz
    .exact h q (Zu _ hq) z hz
    .refine O (mem_singleton.mp hz) ?_;intro e;cases e;exact(nodup_cons.mp nd).1 hq
theorem vE{ps:VT}{vs:VX}(nd:ps.Nodup)(hl:ps.length=vs.length)(h6:ps.length<=6):jm .dzip [.list<|ps.map .str,.tuple vs]=some (.KK<|.dict<|kv ps vs):=by
 show(if (ps.map str).length<=1000 then(iQ []<|fq (ps.map .str) vs).map λkvs=>Rv.KK (.dict kvs) else none)=_
 refine O (YX (by rw[ZG];exact(L1 [ps.length] .x (.c 1000) .x (.c 6) rfl h6)))<|O (JA ps [] vs nd hl λp aa z hz=>by cases hz) ?_;rfl
theorem tI{x:Str} :∀{ps:VT}{vs:VX},aR (kv ps vs) x=some v->v∈vs:=by intro ps;induction ps with
 |nil=>intro vs h;rw[Am]at h;exact am h
 |cons p ps ih=>intro vs h;cases vs with
  |nil=>cases h
  |cons u vs=>
   have h:(if p=x then some u else aR (kv ps vs) x)=some v:=h;by_cases q:p=x
   .rw[YX q]at h;obtain rfl:=aE h;exact Zt
   .rw[YY q]at h;exact Zu _<|ih h
theorem Ao:∀{ps:VT}{wn:List Bool},(cw ps wn).Sublist ps:=by intro ps;induction ps with
 |nil=>intro wn;cases wn<;>exact Sublist.slnil
 |cons p ps ih=>intro wn;cases wn with
  |nil=>exact List.nil_sublist _
  |cons b wn=>cases b with
   |true=>exact(ih (wn:=wn)).cons_cons p
   |false=>exact(ih (wn:=wn)).cons p
theorem JC:∀{ps:VT}{wn:List Bool},wn.length=ps.length->(cw ps wn).length=(wn.filter id).length:=by intro ps;induction ps with
 |nil=>intro wn h;cases wn with|nil=>rfl|cons _ _=>exact nomatch h
 |cons p ps ih=>intro wn h;cases wn with
  |nil=>exact nomatch h
  |cons b wn=>cases b with
   |true=>exact Y2 (· + 1)<|ih<|Y9 h
   |false=>exact ih<|Y9 h
structure Pg(hs:List Hd)(fs:List Fun)(d:Nat):Prop where
 hd:fs.map (·.1)=hs
 ok:∀f∈fs,Ok hs (cw f.1.ps f.1.wn) d f.2
 nd:(hs.map (·.nm)).Nodup
 wn:∀h∈hs,h.wn.length=h.ps.length
 le:∀h∈hs,h.ps.length<=6
 pn:∀h∈hs,h.ps.Nodup
 k2:∀h∈hs,(h.wn.filter id).length<=2
 h5:hs.length<=5
noncomputable def j6:List Fun->Str->Option Fun
 |[],_=>none
 |f::fs,x=>if f.1.nm=x then some f else j6 fs x
noncomputable def Vs(hs:List Hd)(x:Case):Option Fun->Sf
 |some f=>lf hs (kv (cw f.1.ps f.1.wn) x.2) f.2
 |none=>λc=>(.ref ⟨#[]⟩,c)
noncomputable def Bd(hs:List Hd)(fs:List Fun)(x:Case):Sf:=Vs hs x<|j6 fs x.1
theorem N9{f:Fun}:∀{fs:List Fun},((fs.map (·.1)).map (·.nm)).Nodup->f∈fs->j6 fs f.1.nm=some f:=by intro fs;induction fs with
 |nil=>exact λaa m=>by cases m
 |cons g fs ih=>
  intro nd m;rw[Zz,Zz,nodup_cons]at nd;show(if g.1.nm=f.1.nm then some g else j6 fs f.1.nm)=_
  rcases mem_cons.mp m with rfl|m
  .exact YX rfl
  .exact O (YY λe=>nd.1<|mem_map.mpr ⟨f.1,mem_map.mpr ⟨f,m,rfl⟩,e.symm⟩) (ih nd.2 m)
structure LL(hs:List Hd)(fs:List Fun)(x:Case)(f:Fun):Prop where
 mem:f∈fs
 hm:f.1∈hs
 nm:f.1.nm=x.1
 at':j6 fs x.1=some f
 so:qs hs x.1=f.1.wn
 kl:(cw f.1.ps f.1.wn).length=x.2.length
 k6:(cw f.1.ps f.1.wn).length<=6
 kd:(cw f.1.ps f.1.wn).Nodup
theorem Pg.case(P:Pg hs fs d)(u:Us hs x):∃f,LL hs fs x f:=by
 refine aB u.mem λh q=>?_;have jC:=q.1;have jC:=P.hd.symm▸jC;obtain⟨f,hf,rfl⟩:=mem_map.mp jC;refine⟨f,hf,q.1,q.2.1,?_,?_,(JC<|P.wn _ q.1).trans q.2.2.symm,Zg Ao.length_le<|P.le _ q.1,Ao.nodup<|P.pn _ q.1⟩
 .rw[<- q.2.1];exact N9 (by refine O P.hd ?_;exact P.nd) hf
 .rw[<- q.2.1];exact uQ P.nd q.1
theorem Pg.gr(P:Pg hs fs d)(u:Us hs x)(c:C):Gr (Us hs) d c (Bd hs fs x c):=by refine aB (P.case u) λf q=>?_;unfold Bd;refine O q.at' ?_;refine Ab P.nd (λh hm=>by refine O (P.wn h hm) ?_;exact P.le h hm) (λy hy=>?_) (λy v e=>lB<|u.sl v<|tI e) d f.2 (P.ok f q.mem) c;refine aB (tJ hy q.kl) λv Q=>?_;exact⟨v,Q.1,u.sl v Q.2⟩
noncomputable def go(B:Case->Sf):Nat->List R->C->Option (List R×C)
 |0,_,_=>none
 |n+1,X,c=>match c[X.length]? with
  |none=>some (X,c)
  |some x=>go B n (X++[(B x c).1]) (B x c).2
open Classical in
theorem qG:∀{c L:List α},c.Nodup->(∀x∈c,x∈L)->c.length<=L.length:=by intro c;induction c with
 |nil=>exact λaa ai=>Y7 _
 |cons x c ih=>
  intro L nd H;rw[nodup_cons]at nd;have hx:=H x Zt;have:=ih (L:=L.erase x) nd.2 λy hy=>(List.mem_erase_of_ne (λe=>nd.1 (by rw[<- e];exact hy))).mpr<|H y<|Zu _ hy;rw[List.length_erase_of_mem hx]at this;have:0<L.length:=List.length_pos_of_mem hx;show c.length+1<=L.length
  exact(Ln [c.length,L.length,L.length-1] (.w (.p 1 .x) .y) [Gl .x .z,Ge (.p 1 .z) .y] rfl ‹c.length<=L.length-(1:Nat)› (Za (n:=L.length) (m:=1)<|L1 [L.length] (.c 1) .x (.p 1<|.c 0) .x rfl this))
theorem EV{B:Case->Sf}{L:List Case}(hL:∀x,U x->x∈L)(hB:∀x,U x-> ∀c,Gr U d c<|B x c):∀(n:Nat)(X:List R)(c:C),L.length<n+X.length->c.Nodup->(∀x∈c,U x)->X.length<=c.length->
  ∃iH c',go B n X c=some (iH,c'):=by
 intro n;induction n with
 |zero=>intro X c h nd hc hl;have:=qG nd λx hx=>hL x<|hc x hx;exact(Zf _<|Zd h (by rw[Y8];exact Zg hl this)).elim
 |succ n ih=>
  intro X c h nd hc hl;show ∃iH c',(match c[X.length]? with
  |none=>some (X,c)
  |some x=>go B n (X++[(B x c).1]) (B x c).2)=some (iH,c')
  cases q:c[X.length]? with
  |none=>exact⟨X,c,rfl⟩
  |some x=>have g:=(hB x (hc x<|Zs q) c).gw;exact ih (X++[(B x c).1]) (B x c).2 (by rw[ZI];exact(L1 [L.length,n,X.length] (.p 1 .x) (.a .y<|.p 1 .z) (.p 1 .x) (.a (.p 1 .y) .z) rfl h)) (g.nd nd) (g.ins hc) (by rw[ZI];exact Zg (List.getElem?_eq_some_iff.mp q).1 g.pre.length_le)
noncomputable def qP(Sl:VX):Nat->List VX
 |0=>[[]]
 |m+1=>[]::Sl.flatMap λv=>(qP Sl m).map (v :: ·)
theorem wM{Sl:VX}:∀{m:Nat}{l:VX},l.length<=m->(∀v∈l,v∈Sl)->l∈qP Sl m:=by intro m;induction m with
 |zero=>intro l h _;exact O (List.eq_nil_of_length_eq_zero<|Nat.le_zero.mp h) Zt
 |succ m ih=>intro l h H;cases l with
  |nil=>exact Zt
  |cons v l=>exact Zu _<|List.mem_flatMap.mpr ⟨v,H v Zt,mem_map.mpr ⟨l,ih (Zi h)<|eA H,rfl⟩⟩
noncomputable def pI(hs:List Hd):List Case:=hs.flatMap λh=>(qP Sl 2).map λl=>(h.nm,l)
theorem uw:∀hs:List Hd,(pI hs).length=hs.length*463:=by
 intro hs;have e:(qP Sl 2).length=463:=by kernel_rfl
 induction hs with
 |nil=>rfl
 |cons h hs ih=>
  show((qP Sl 2).map (λl=>(h.nm,l))++pI hs).length=_
  refine O ZI ?_;rw[ZG,e,ih,ZH,Nat.succ_mul,add_comm]
section
variable {hs:List Hd}{fs:List Fun}{d:Nat}
theorem Pg.all(P:Pg hs fs d)(x:Case)(u:Us hs x):x∈pI hs:=by refine aB u.mem λh q=>?_;exact List.mem_flatMap.mpr ⟨h,q.1,mem_map.mpr ⟨x.2,wM (by rw[q.2.2];exact P.k2 h q.1) u.sl,by rw[q.2.1]⟩⟩
theorem Pg.len(P:Pg hs fs d):(pI hs).length<=2315:=by rw[uw];exact Nat.mul_le_mul_right 463 P.h5
theorem Pg.cl(P:Pg hs fs d)(nd:c.Nodup)(h:∀x∈c,Us hs x):c.length<=2315:=Zg (qG nd λx hx=>P.all x<|h x hx) P.len
theorem Pg.ends(P:Pg hs fs d)(hn:2315<n)(nd:c.Nodup)(h:∀x∈c,Us hs x):∃iH c',go (Bd hs fs) n [] c=some (iH,c'):=
 EV (λx u=>P.all x u) (λx u c=>P.gr u c) n [] c (Ze P.len hn) nd h (Y7 _)
end
end Lq
end
section
namespace Lq
open PySem Mv
noncomputable abbrev ay(x:Case):D:=.tuple [.str x.1,.tuple x.2]
noncomputable def lP(k:Nat):Str:=⟨(102::gO k).toArray⟩
open Classical in
noncomputable def dj:C->Case->Nat
 |[],_=>0
 |y::c,x=>if y=x then 0 else dj c x+1
mutual
noncomputable def encM(c:C):R->D
 |.val d=>.tuple [.str dc,d]
 |.nam x=>.tuple [.str oU,.str x]
 |.ref x=>.tuple [.str be,.str x]
 |.iff a b e=>.tuple [.str iM,encM c a,encM c b,encM c e]
 |.doo op ps=>.tuple [.str jz,.str op,.tuple<|b5 c ps]
 |.call f ks ps=>.tuple [.str cV,.str<|lP<|dj c (f,ks),.tuple<|b5 c ps]
noncomputable def b5(c:C):List R->VX
 |[]=>[]
 |r::rs=>encM c r::b5 c rs
end
mutual
noncomputable def aD:R->D
 |.val d=>.tuple [.str dc,d]
 |.nam x=>.tuple [.str oU,.str x]
 |.ref x=>.tuple [.str be,.str x]
 |.iff a b e=>.tuple [.str iM,aD a,aD b,aD e]
 |.doo op ps=>.tuple [.str jz,.str op,.tuple<|eF ps]
 |.call f ks ps=>.tuple [.str cV,ay (f,ks),.tuple<|eF ps]
noncomputable def eF:List R->VX
 |[]=>[]
 |r::rs=>aD r::eF rs
end
theorem eQ(ps:List R):b5 c ps=ps.map (encM c):=by induction ps with
 |nil=>rfl
 |cons r rs ih=>show _::_=_::_;exact O ih rfl
theorem iG(ps:List R):eF ps=ps.map aD:=by induction ps with
 |nil=>rfl
 |cons r rs ih=>show _::_=_::_;exact O ih rfl
theorem jB:dj (x::c) x=0:=YX rfl
theorem f6(h:y≠x):dj (y::c) x=dj c x+1:=YY h
theorem EL:∀{c e:C},x∈c->dj (c++e) x=dj c x:=by intro c;induction c with
 |nil=>intro e h;cases h
 |cons y c ih=>
  intro e h;by_cases q:y=x
  .exact O q (O cons_append<|O jB<|O jB rfl)
  .exact O cons_append (O (f6 q)<|O (f6 q)<|O (ih<|(mem_cons.mp h).resolve_left λe=>q e.symm) rfl)
theorem EK(h:x∈c)(p:c <+:c'):dj c' x=dj c x:=by obtain⟨e,rfl⟩:=p;exact EL h
theorem vh:∀{c:C},x∉c->dj (c++[x]) x=c.length:=by intro c;induction c with
 |nil=>intro _;exact YX rfl
 |cons y c ih=>intro h;refine O cons_append<|O (f6 (λe=>h (by refine O e ?_;exact Zt)))<|O (ih λq=>h<|Zu _ q) ?_;rfl
theorem AF:∀{c:C},x∈c->dj c x<c.length:=by intro c;induction c with
 |nil=>intro h;cases h
 |cons y c ih=>
  intro h;by_cases q:y=x
  .exact O q (O jB<|Nat.zero_lt_succ _)
  .exact O (f6 q) (Nat.succ_lt_succ<|ih<|(mem_cons.mp h).resolve_left λe=>q e.symm)
theorem jI(p:c <+:c'):∀{n:Nat}{r:R},Rk c n r->encM c' r=encM c r:=by intro n;induction n with
 |zero=>exact λh=>h.elim
 |succ n ih=>
  intro r h;have l:∀{ps:List R},(∀p∈ps,Rk c n p)->b5 c' ps=b5 c ps:=fun {ps} h=>by rw[eQ,eQ];exact List.map_congr_left λp hp=>ih<|h p hp
  cases r with
  |val d=>rfl
  |nam d=>rfl
  |ref d=>rfl
  |iff a b e=>show tuple [_,encM c' a,encM c' b,encM c' e]=_;refine O (ih h.1)<|O (ih h.2.1)<|O (ih h.2.2) ?_;rfl
  |doo op ps=>show tuple [_,_,.tuple<|b5 c' ps]=tuple [_,_,.tuple<|b5 c ps];exact O (l h.2) rfl
  |call f ks ps=>show tuple [_,.str<|lP<|dj c' (f,ks),.tuple<|b5 c' ps]=tuple [_,.str<|lP<|dj c (f,ks),.tuple<|b5 c ps];exact O (l h.2.2)<|O (EK h.1 p) rfl
theorem Is:Sl.all (λd=>decide<|d.depth<=4)=true:=by kernel_rfl
theorem kb:∀{X:VX},(∀d∈X,d.depth<=m)->depthAll X<=m:=by intro X;induction X with
 |nil=>exact λaa=>Y7 _
 |cons d X ih=>intro h;exact max_le.mpr ⟨h d Zt,ih<|eA h⟩
structure KC(x:Case):Prop where
 key:b9 (ay x)=true
 dep:(ay x).depth<=6
theorem Us.kc(u:Us hs x):KC x:=by
 refine⟨?_,?_⟩
 .show(true&&(eX x.2&&true))=true
  refine O (nF.mpr λk hk=>(lB<|u.sl k hk).key) ?_;rfl
 .have:=kb (m:=4) (X:=x.2) λk hk=>YW (all_eq_true.mp Is k<|u.sl k hk)
  exact succ_le_succ<|max_le.mpr ⟨Y7 _,(max_le.mpr ⟨succ_le_succ this,Y7 _⟩)⟩
theorem KC.ok(h:KC x):fH (ay x)=true:=by exact and_eq_true_iff.mpr ⟨h.key,Y0<|Zd (Nat.lt_of_succ_le h.dep) (by decide)⟩
theorem Bt(h:ay x=ay y):x=y:=by obtain⟨a,b⟩:=x;cases h;rfl
theorem KC.eqn(hx:KC x)(hy:KC y):x≠y->eqv (ay x) (ay y)=false:=λh=>tK hx.key hy.key λe=>h<|Bt e
theorem KC.self(hx:KC x):eqv (ay x) (ay x)=true:=lW _ hx.key
theorem KC.eqD(hx:KC x)(hy:KC y):Mv.eqD (ay x) (ay y)=some (eqv (ay x)<|ay y):=by
 have ok:fh (ay x) (ay y)=true:=by unfold fh;refine O (hO _ hx.key)<|O (hO _ hy.key)<|O (Y0<|Zg (min_le_left _ _)<|Zg hx.dep (by decide)) ?_;rfl
 show(if fh (ay x) (ay y) then some (eqv (ay x)<|ay y) else none)=_
 exact YX ok
noncomputable def eR:Nat->C->VY
 |_,[]=>[]
 |k,x::c=>(ay x,.int k)::eR (k+1) c
theorem C6:∀{c:C}{k:Nat},(eR k c).length=c.length:=by intro c;induction c with
 |nil=>intro _;rfl
 |cons x c ih=>intro k;exact Y2 (· + 1) ih
theorem uN:∀{c:C}{k:Nat},eR k (c++[x])=eR k c++[(ay x,.int (k+c.length:Nat))]:=by intro c;induction c with
 |nil=>intro k;rfl
 |cons y c ih=>
  intro k;show _::eR (k+1) (c++[x])=_::(eR (k+1) c++_)
  refine O ih<|O (show k+1+c.length=k+(c.length+1) from Nat.succ_add_eq_add_succ k c.length) ?_;rfl
theorem u6(h:∀y∈c,KC y):noDicts (c.map ay)=true:=by induction c with
 |nil=>rfl
 |cons x c ih=>exact and_eq_true_iff.mpr ⟨hO _ (h x Zt).key,ih<|eA h⟩
section
variable {x:Case}(hx:KC x)
include hx
theorem uM:∀{c:C}{k:Nat},(∀y∈c,KC y)->(x∈c->bK (ay x) (eR k c)=some (.int (k+dj c x:Nat)))/\(x∉c->bK (ay x) (eR k c)=none):=by intro c;induction c with
 |nil=>intro k _;exact⟨λh=>(Zp h).elim,λaa=>rfl⟩
 |cons y c ih=>
  intro k h;have e:bK (ay x) (eR k (y::c))=if eqv (ay y) (ay x)=true then some (.int k) else bK (ay x) (eR (k+1) c):=rfl
  have i:=ih (k:=k+1)<|eA h;by_cases q:y=x
  .rw[e,q,YX hx.self];exact⟨λaa=>by rw[jB];rfl,λn=>absurd Zt n⟩
  .rw[e,(h y Zt).eqn hx q,YY Z7];refine⟨λm=>?_,λn=>i.2 λm=>n<|Zu _ m⟩;rw[i.1<|(mem_cons.mp m).resolve_left λe=>q e.symm,f6 q,Nat.succ_add_eq_add_succ]
theorem vM:∀{c:C},(∀y∈c,KC y)->(x∈c->ew (ay x) (c.map ay)=some true)/\(x∉c->ew (ay x) (c.map ay)=some false)/\ ∃b,ew (ay x) (c.map ay)=some b:=by intro c;induction c with
 |nil=>intro _;exact⟨λh=>(Zp h).elim,λaa=>rfl,_,rfl⟩
 |cons y c ih=>
  intro h;have e:ew (ay x) ((y::c).map ay)=(match Mv.eqD (ay y) (ay x) with
   |none=>none
   |some b=>match ew (ay x) (c.map ay) with
    |none=>none
    |some c=>some<|b||c):=rfl
  obtain⟨i1,i2,b,i3⟩:=ih<|eA h;rw[e,(h y Zt).eqD hx];by_cases q:y=x
  .rw[q,hx.self,i3];exact⟨λaa=>rfl,λn=>absurd Zt n,_,rfl⟩
  .rw[(h y Zt).eqn hx q];refine⟨λm=>?_,λn=>?_,b,?_⟩
   .rw[i1<|(mem_cons.mp m).resolve_left λe=>q e.symm];rfl
   .rw[i2 λm=>n<|Zu _ m];rfl
   .rw[i3];rfl
theorem wT:∀{c:C},(∀y∈c,KC y)->x∈c->fS (ay x) (c.map ay)=some (dj c x):=by intro c;induction c with
 |nil=>intro _ h;cases h
 |cons y c ih=>
  intro h m;have e:fS (ay x) ((y::c).map ay)=if eqv (ay y) (ay x)=true then some 0 else(fS (ay x)<|c.map ay).map (· + 1):=rfl
  rw[e];by_cases q:y=x
  .rw[q,YX hx.self,jB]
  .rw[(h y Zt).eqn hx q,YY Z7,f6 q,ih (eA h)<|(mem_cons.mp m).resolve_left λe=>q e.symm];rfl
theorem Az(h:∀y∈c,KC y):fh (.list<|c.map ay) (ay x)=true:=by unfold fh;rw[show noDict (.list<|c.map ay)=true from u6 h,hO _ hx.key,Y0<|Zg (Nat.min_le_right _ _)<|Zg hx.dep (by decide)];rfl
end
end Lq
namespace Lq
open PySem Mv
theorem FL:(List.range 2316).all (λk=>decide<|(gO k).length<=10)=true:=by kernel_rfl
structure Sa(k:Nat):Prop where
 str:jm .str [.int (k:Nat)]=some (.fz<|.str ⟨(gO k).toArray⟩)
 add:op2 .add (S [102]) (.str ⟨(gO k).toArray⟩)=some (.fz<|.str<|lP k)
theorem Db(h:k<=2315):Sa k:=by
 have:=YW<|all_eq_true.mp FL k<|mem_range.mpr<|Nat.lt_succ_of_le h;refine⟨YX ⟨Ze h (by decide),Zg this (by decide)⟩,?_⟩;show(if 1+(gO k).toArray.size<=Sz then some (Rv.fz<|.str ⟨#[102]++(gO k).toArray⟩) else none)=_
 refine O (YX (by refine O Zo ?_;show 1+(gO k).length<=16777216;exact(L1 [(gO k).length] (.a (.c 1) .x) (.c 16777216) .x (.c 10) rfl this))) ?_;show some (Rv.fz<|.str ⟨#[102]++(gO k).toArray⟩)=some (.fz<|.str ⟨(102::gO k).toArray⟩)
 exact O (show #[102]++(gO k).toArray=(102::gO k).toArray by simp) rfl
noncomputable abbrev hU(fd sd:VY)(c:C):List Slot:=[.KK<|.dict fd,.fz<|.dict sd,.KK<|.list<|c.map ay,.tab<|eR 0 c]
structure CK(hs:List Hd)(c:C):Prop where
 nd:c.Nodup
 us:∀x∈c,Us hs x
 le:c.length<=2315
theorem Cc(h:x∈c):gU c x=c:=by unfold gU;exact YX h
theorem pO(h:x∉c):gU c x=c++[x]:=by unfold gU;exact YY h
theorem u8(n:Nat)(fd sd:VY)(k:CK hs c)(u:Us hs x):
  cF P (n+1) false 45 (hU fd sd c++[.fz<|.str x.1,.fz<|.tuple x.2])=some (.ok<|.fz<|.str<|lP<|dj (gU c x) x,hU fd sd<|gU c x):=by
 have ko:=u.kc.ok;have tg:=uM u.kc (c:=c) (k:=0) λy hy=>(k.us y hy).kc;by_cases q:x∈c
 .refine O (Cc q) ?_;have h1:=tg.1 q;have h2:(bK (ay x)<|eR 0 c).isNone=false:=by refine O h1 ?_;rfl
  rw[Y8]at h1;have Q:=Db<|Zg (le_of_lt<|AF q) k.le;exact aG [.t 0 ko,.t 0 h2,.t 1 ko,.d 0 h1,.v 0<|Q.1,.v 0<|Q.2] rfl
 .refine O (pO q) (O (vh q) ?_);have h2:(bK (ay x)<|eR 0 c).isNone=true:=by refine O (tg.2 q) ?_;rfl
  have ex:ay x = .tuple [.str x.1,.tuple x.2]:=rfl;have h5:decide (fH (ay x)=true/\bK (ay x) (eR 0 c)=none/\(eR 0 c).length<Sz)=true:=Y0 ⟨ko,tg.2 q,by refine O C6 ?_;have:=k.le;show c.length<16777216;exact(L1 [length c] (.p 1 .x) (.c 16777216) .x (.c 2315) rfl this)⟩;have h6:decide ((c.map ay).length<Sz)=true:=Y0 (by rw[ZG];have:=k.le;show c.length<16777216;exact(L1 [length c] (.p 1 .x) (.c 16777216) .x (.c 2315) rfl this));have h1:bK (ay x) (eR 0 c++[(ay x,.int ((c.map ay).length:Nat))])=some (.int c.length):=by have:=(uM u.kc (c:=c++[x]) (k:=0) λy hy=>(mem_append.mp hy).elim (λh=>(k.us y h).kc) λh=>by refine O (mem_singleton.mp h) ?_;exact u.kc).1<|Zw _ Zt;rw[uN,vh q,Y8]at this;rw[ZG];exact this
  have z:=Db k.le;have e1:(c++[x]).map ay=c.map ay++[ay x]:=by refine O ZB ?_;rfl
  have e2:eR 0 (c++[x])=eR 0 c++[(ay x,.int ((c.map ay).length:Nat))]:=by refine O uN ?_;rw[Y8,ZG]
  exact O (show hU fd sd (c++[x])=[.KK<|.dict fd,.fz<|.dict sd,.KK<|.list<|(c++[x]).map ay,.tab<|eR 0<|c++[x]] from rfl)<|O e1<|O e2<|aG [.t 0 ko,.t 0 h2,.v 1<|(rfl:jm .len [.list<|c.map ay]=some (.fz<|.int ((c.map ay).length:Nat))),.t 0 h5,.t 0 h6,.t 0 ko,.d 0 h1,.v 0<|z.1,.v 0<|z.2] rfl
theorem Mf(n:Nat)(c:C){vs:VX}(ho:gQ op=true)(hl:bH op vs.length=true)(hv:∀v∈vs,Vg v):
  cF P (n+61) false 11 [vK op,.fz<|.list vs]=eV (encM c (match dn op vs with
  |.ok v=>.val v
  |.error e=>.ref e)):=by
 have h:=FI n ho hl hv;have g:=BN ho hl hv;cases q:dn op vs with
 |ok v=>have h:=q▸h;exact aG [.c 0 h] rfl
 |error e=>
  rw[q]at h g;have g:e∈sJ:=g;simp only[Zv,Zp,or_false]at g;rcases g with rfl|rfl|rfl|rfl|rfl|rfl
  .exact aG [.c 0 h] rfl
  .exact aG [.c 0 h] rfl
  .exact aG [.c 0 h] rfl
  .exact aG [.c 0 h] rfl
  .exact aG [.c 0 h] rfl
  .exact aG [.c 0 h] rfl
noncomputable def R.tag:R->Str
 |.val _=>dc
 |.nam _=>oU
 |.ref _=>be
 |.iff _ _ _=>iM
 |.doo _ _=>jz
 |.call _ _ _=>cV
theorem iq(r:R):aI .eq (.str r.tag) (.str be)=some r.isRef:=by cases r<;>kernel_rfl
theorem gj(r:R):aI .ne (.str r.tag) (.str dc)=some r.opn:=by cases r<;>kernel_rfl
theorem yB(r:R):aI .eq (.str r.tag) (.str dc)=some (!r.opn):=by cases r<;>kernel_rfl
theorem uL(c:C)(r:R):cW (encM c r) (.int 0)=some (.str r.tag):=by cases r<;>rfl
theorem kj(r:R):cW (aD r) (.int 0)=some (.str r.tag):=by cases r<;>rfl
theorem v6(N:Nat)(c:C)(a0 a1 a2 a3 a4 a5 a6 a7 a8 a9 im kR:Slot):∀(os:List R)(s:Slot),(∀x∈os,x.opn=false)->
  bB ⟨P.glob,cF P N,[0,1,2,3],false⟩ [a0,a1,a2,a3,a4,a5,a6,a7,a8,a9,im,kR,s] (.idx (ae 12) cY) (.one 12) [] (os.map<|encM c)=some (.ok<|os.map R.v,[a0,a1,a2,a3,a4,a5,a6,a7,a8,a9,im,kR,.no]):=by
 intro os;induction os with
 |nil=>intro s _;refine O Zy ?_;rw[aL];rfl
 |cons x os ih=>intro s h;have hx:=h x Zt;have q:=λs=>ih s<|eA h;cases x with
  |val d=>exact O Zz<|jS [.cp 1<|(q<|.fz<|encM c<|.val d)] rfl
  |_=>cases hx
abbrev HK(N:Nat)(hs:List Hd)(fd sd LE:VY)(t:T)(c:C):Prop:=cF P N false 49 (hU fd sd c++[.fz<|bT t,.fz<|.dict LE])=some (.ok<|.fz<|encM (lf hs LE t c).2 (lf hs LE t c).1,hU fd sd (lf hs LE t c).2)
def Lr(f:R->C->Mv.Fm->VW bN×Mv.Fm)(g:VX->List R->Bool->C->VW bN×Mv.Fm)(Id:bF bN):Lp->Prop
 |.ret r c=> ∃z,Id=some (f r c z)
 |.next ks os o c=>Id=some (g ks os o c)
theorem Lr.st{f:R->C->Mv.Fm->VW bN×Mv.Fm}{g:VX->List R->Bool->C->VW bN×Mv.Fm}{Id dl:bF bN}{l:Lp}(h:Lr f g Id l)(H:∀R,Id=some R->dl=some R):Lr f g dl l:=by cases l with
 |ret r c=>exact aB h λz h=>⟨z,H _ h⟩
 |next ks os o c=>exact H _ h
noncomputable abbrev Sk(fd sd LE:VY)(a4 a5:Slot):bF bN->Lp->Prop:=
 Lr (λr c z=>(.ok<|.ret<|.fz<|encM c r,hU fd sd c++a4::a5 :: .fz (.dict LE)::z)) λaa os o c=>(.ok .next,hU fd sd c++[a4,a5,.fz<|.dict LE,.KK<|.list<|os.map<|encM c,.fz<|.bool o,.no,.no,.no,.no])
abbrev Gn(N:Nat)(fd sd LE:VY)(t x:D)(c c1:C):Prop:=cF P N false 49 (hU fd sd c++[.fz t,.fz<|.dict LE])=some (.ok<|.fz x,hU fd sd c1)
theorem oD(p:c <+:c'){l:List R}(h:∀x∈l,Rk c n x):l.map (encM c')=l.map (encM c):=List.map_congr_left λx hx=>jI p<|h x hx
theorem Gw.ck(G:Pg hs fs d)(g:Gw (Us hs) c c')(k:CK hs c):CK hs c':=⟨g.nd k.nd,g.ins k.us,G.cl (g.nd k.nd)<|g.ins k.us⟩
noncomputable abbrev Ho(N:Nat)(fd sd LE:VY)(a4 a5:Slot)(ac:VX)(c:C)(os:VX)(o:Bool)(s9 fO:Slot):bF bN:=
 cm ⟨P.glob,cF P N,[0,1,2,3],false⟩ (hU fd sd c++[a4,a5,.fz<|.dict LE,.KK<|.list os,.fz<|.bool o,s9,fO,.no,.no]) (.one 9) Ov [9,10] ac
section
variable {N:Nat}{fd sd LE:VY}{c c1:C}{a4 a5 s9 fO:Slot}{os ac:VX}{b b2:Bool}{t x:D}{w:Str}{R:VW bN×Mv.Fm}(h1:Gn N fd sd LE t x c c1)(t0:cW x (.int 0)=some (.str w))
include h1 t0
theorem RC(t1:aI .eq (.str w) (.str be)=some true):Ho N fd sd LE a4 a5 (t::ac) c os false s9 fO=some (.ok<|.ret<|.fz x,hU fd sd c1++[a4,a5,.fz<|.dict LE,.KK<|.list os,.fz<|.bool false,.fz t,.fz x,.no,.no]):=by
 (exact eM [.c 0 h1,.d 0 t0,.b 0 t1] rfl)
theorem RB(t1:aI .eq (.str w) (.str be)=some b)(hz:decide (os.length<Sz)=true)(i:Ho N fd sd LE a4 a5 ac c1 (os++[x]) true (.fz t) (.fz x)=some R):Ho N fd sd LE a4 a5 (t::ac) c os true s9 fO=some R:=by cases b with
 |true=>(exact eM [.c 0 h1,.d 0 t0,.b 0 t1,.t 4 hz,.lp 0 i] rfl)
 |false=>(exact eM [.c 0 h1,.d 0 t0,.b 0 t1,.t 3 hz,.lp 0 i] rfl)
theorem Rz(t1:aI .eq (.str w) (.str be)=some false)(t2:aI .ne (.str w) (.str dc)=some b2)(hz:decide (os.length<Sz)=true)(i:Ho N fd sd LE a4 a5 ac c1 (os++[x]) b2 (.fz t) (.fz x)=some R):Ho N fd sd LE a4 a5 (t::ac) c os false s9 fO=some R:=by
 (exact eM [.c 0 h1,.d 0 t0,.b 0 t1,.d 3 t0,.b 0 t2,.t 0 hz,.lp 0 i] rfl)
end
section
variable {N:Nat}{fd sd LE:VY}{a4 a5:Slot}
theorem FK{o:Bool}{x:R}{s9 fO:Slot}{t:D}(h1:Gn N fd sd LE t (encM c1 x) c c1)
  (e:os.map (encM c1)=os.map (encM c)) (ho:os.length<Sz)
  (H2:Sk fd sd LE a4 a5 (Ho N fd sd LE a4 a5 ac c1 ((os++[x]).map<|encM c1) (o||x.opn) (.fz t)<|.fz<|encM c1 x) L2):
  Sk fd sd LE a4 a5 (Ho N fd sd LE a4 a5 (t::ac) c (os.map<|encM c) o s9 fO) (cz (x.isRef && !o) (.ret x c1) L2):=by
 have t0:=uL c1 x;have t1:=iq x;have z2:decide ((os.map<|encM c1).length<Sz)=true:=Y0<|ZG (encM c1)▸ho;rw[<- e];rw[ZB]at H2;cases o with
 |true=>rw[Bool.not_true,Bool.and_false];exact H2.st λR i=>RB h1 t0 t1 z2 i
 |false=>cases q:x.isRef with
  |true=>exact⟨_,RC h1 t0<|q▸t1⟩
  |false=>exact H2.st λR i=>Rz h1 t0 (q▸t1) (gj x) z2 i
theorem FJ{r:Nat}(G:Pg hs fs d):∀(ts:List T)(VM:List R)(o:Bool)(c:C)(s9 fO:Slot),(∀t∈ts, ∀c,CK hs c->HK N hs fd sd LE t c/\Gr (Us hs) r c (lf hs LE t c))->
  CK hs c->(∀x∈VM,Rk c r x)->VM.length+ts.length<=1000->
  Sk fd sd LE a4 a5 (Ho N fd sd LE a4 a5 (aZ ts) c (VM.map<|encM c) o s9 fO) (bS [] VM o ((jl hs LE ts).map λf=>(f,false)) c):=by
 intro ts;induction ts with
 |nil=>intro VM o c s9 fO _ _ _ _;exact bb ..
 |cons t ts ih=>
  intro VM o c s9 fO H k ha hl;have hg:=H t Zt c k;have g:=hg.2.gw;have hl:=ZH▸hl;exact FK hg.1 (oD g.pre ha) (L1 [VM.length,ts.length] (.p 1 .x) (.c 16777216) (.a .x<|.p 1 .y) (.c 1000) rfl hl)
   (ih _ _ _ _ _ (eA H) (g.ck G k) (fK (λy hy=>(ha y hy).mono g.pre<|Zh _) hg.2.rk) (by refine O ZI<|O ZD ?_;exact(L1 [VM.length,ts.length] (.a (.p 1 .x) .y) (.c 1000) (.a .x<|.p 1 .y) (.c 1000) rfl hl)))
end
section
variable {hs:List Hd}{fs:List Fun}{d r N:Nat}{fd sd LE:VY}
theorem Jt(G:Pg hs fs d)(ho:gQ op=true)(hl:bH op ps.length=true)(H:∀t∈ps, ∀c,CK hs c->HK (N+61) hs fd sd LE t c/\Gr (Us hs) r c (lf hs LE t c))(H':∀t∈ps, ∀c,Gr (Us hs) r c<|lf hs LE t c)(k:CK hs c):
  cF P (N+62) false 46 (hU fd sd c++[vK op,.fz<|.tuple<|aZ ps,.fz<|.dict LE])=some (.ok<|.fz<|encM (lf hs LE (.doo op ps) c).2 (lf hs LE (.doo op ps) c).1,hU fd sd (lf hs LE (.doo op ps) c).2):=by
 have lp:=FJ (a4:=vK op) (a5:=.fz<|.tuple<|aZ ps) G (fd:=fd) (sd:=sd) ps [] false c .no .no H k (λaa h=>by cases h) (by have:=gV hl;show 0+ps.length<=1000;exact(L1 [ps.length] (.a (.c 0) .x) (.c 1000) .x (.c 8) rfl this));have lk:=BM H' (gV hl) c;refine O (show lf hs LE (.doo op ps) c=Ou op (bS [] [] false ((jl hs LE ps).map λf=>(f,false)) c) from rfl) ?_;generalize bS [] [] false ((jl hs LE ps).map λf=>(f,false)) c=l at lp lk ⊢;cases lk with
 |ret g=>refine aB lp λz lp=>?_;exact aG [.lp 1 lp] rfl
 |@next ks os o c' g h1 h2 h3 h4 h5=>cases o with
  |true=>
   have e:encM c' (.doo op os) = .tuple [.str jz,.str op,.tuple<|os.map<|encM c']:=by rw[<- eQ];rfl
   show _=some (Except.ok<|Rv.fz<|encM c'<|.doo op os,_)
   exact O e<|aG [.lp 1 lp] rfl
  |false=>
   have ol:os.length=ps.length:=by rw[h2,Y8]at h3;exact h3
   have wo:=Mf N c' (op:=op) (vs:=os.map R.v) ho (by rw[ZG];refine O ol ?_;exact hl) λv wX=>by obtain⟨p,hp,rfl⟩:=mem_map.mp wX;have a:=h4 p hp;have b:=(kg h5.symm) p hp;cases p with
    |val d=>cases r with
     |zero=>exact a.elim
     |succ n=>exact a
    |_=>cases b
   exact aG [.lp 1 lp,.cp 2<|(v6 (N+61) c' (.KK<|.dict fd) (.fz<|.dict sd) (.KK<|.list<|c'.map ay) (.tab<|eR 0 c') (vK op) (.fz<|.tuple<|aZ ps) (.fz<|.dict LE) (.fz<|.list<|os.map<|encM c') (.fz<|.bool false) .no .no .no os .no<|kg h5.symm),.c 0 wo] rfl
noncomputable abbrev P0(fd sd LE:VY)(a4 a5:Slot):bF bN->Lp->Prop:=
 Lr (λr c z=>(.ok<|.ret<|.fz<|encM c r,hU fd sd c++a4::a5 :: .fz (.dict LE)::z)) λks os o c=>(.ok .next,hU fd sd c++[a4,a5,.fz<|.dict LE,.KK<|.list ks,.KK<|.list<|os.map<|encM c,.fz<|.bool o,.no,.no,.no,.no])
noncomputable abbrev Ku(p:T×Bool):D:=.tuple [bT p.1,.bool p.2]
noncomputable abbrev yi(N:Nat)(fd sd LE:VY)(a4 a5:Slot)(ac:VX)(c:C)(ks os:VX)(o:Bool)(fO jt lF:Slot):bF bN:=
 cm ⟨P.glob,cF P N,[0,1,2,3],false⟩ (hU fd sd c++[a4,a5,.fz<|.dict LE,.KK<|.list ks,.KK<|.list os,.fz<|.bool o,fO,jt,lF,.no]) (.tup [10,11]) OI [10,11,12] ac
section
variable {a4 a5 fO jt lF:Slot}{c c1:C}{ks os ac E:VX}{b o b2:Bool}{t x:D}{w:Str}{R:VW bN×Mv.Fm}(h1:Gn N fd sd LE t x c c1)(t0:cW x (.int 0)=some (.str w))
include h1 t0
theorem OH(t1:aI .eq (.str w) (.str be)=some true):
  yi N fd sd LE a4 a5 (.tuple [t,.bool b]::ac) c ks os false fO jt lF=some (.ok<|.ret<|.fz x,hU fd sd c1++[a4,a5,.fz<|.dict LE,.KK<|.list ks,.KK<|.list os,.fz<|.bool false,.fz t,.fz<|.bool b,.fz x,.no]):=by
 (exact eM [.c 0 h1,.d 0 t0,.b 0 t1] rfl)
theorem RM(t1:aI .eq (.str w) (.str be)=some true)(ad:op2 .add (.list os) (.list [x])=some (.KK<|.list E)):
  yi N fd sd LE a4 a5 (.tuple [t,.bool true]::ac) c ks os true fO jt lF=some (.ok<|.ret<|.fz<|.tuple [.str jz,.str aX,.tuple E],hU fd sd c1++[a4,a5,.fz<|.dict LE,.KK<|.list ks,.KK<|.list os,.fz<|.bool true,.fz t,.fz<|.bool true,.fz x,.no]):=by
 (exact eM [.c 0 h1,.d 0 t0,.b 0 t1,.d 4 t0,.b 0 t1,.v 1 ad] rfl)
theorem RL{u:D}(t1:aI .eq (.str w) (.str be)=some false)(t3:cW x (.int 1)=some u)(hz:decide (ks.length<Sz)=true)
  (i:yi N fd sd LE a4 a5 ac c1 (ks++[u]) os o (.fz t) (.fz<|.bool true) (.fz x)=some R):yi N fd sd LE a4 a5 (.tuple [t,.bool true]::ac) c ks os o fO jt lF=some R:=by
 (exact eM [.c 0 h1,.d 0 t0,.b 0 t1,.d 3 t0,.b 0 t1,.d 2 t3,.t 0 hz,.lp 0 i] rfl)
theorem RJ(t1:aI .eq (.str w) (.str be)=some b)(hz:decide (os.length<Sz)=true)
  (i:yi N fd sd LE a4 a5 ac c1 ks (os++[x]) true (.fz t) (.fz<|.bool false) (.fz x)=some R):yi N fd sd LE a4 a5 (.tuple [t,.bool false]::ac) c ks os true fO jt lF=some R:=by
 cases b with
 |true=>(exact eM [.c 0 h1,.d 0 t0,.b 0 t1,.t 6 hz,.lp 1 i] rfl)
 |false=>(exact eM [.c 0 h1,.d 0 t0,.b 0 t1,.t 5 hz,.lp 1 i] rfl)
theorem RI(t1:aI .eq (.str w) (.str be)=some false)(t2:aI .ne (.str w) (.str dc)=some b2)(hz:decide (os.length<Sz)=true)
  (i:yi N fd sd LE a4 a5 ac c1 ks (os++[x]) b2 (.fz t) (.fz<|.bool false) (.fz x)=some R):yi N fd sd LE a4 a5 (.tuple [t,.bool false]::ac) c ks os false fO jt lF=some R:=by
 (exact eM [.c 0 h1,.d 0 t0,.b 0 t1,.t 5 hz,.d 1 t0,.b 0 t2,.lp 0 i] rfl)
end
theorem FY{o:Bool}{x:R}{a5 fO jt lF:Slot}{ks:VX}{t:D}{L1:D->Lp}(h1:Gn N fd sd LE t (encM c1 x) c c1)(tv:b=true->TV x)
  (e:os.map (encM c1)=os.map (encM c)) (hk:ks.length<Sz) (ho:os.length<Sz)
  (H1:∀v,P0 fd sd LE a4 a5 (yi N fd sd LE a4 a5 ac c1 (ks++[v]) (os.map<|encM c1) o (.fz t) (.fz<|.bool true)<|.fz<|encM c1 x)<|L1 v)
  (H2:P0 fd sd LE a4 a5 (yi N fd sd LE a4 a5 ac c1 ks ((os++[x]).map<|encM c1) (o||x.opn) (.fz t) (.fz<|.bool false)<|.fz<|encM c1 x) L2):
  P0 fd sd LE a4 a5 (yi N fd sd LE a4 a5 (.tuple [t,.bool b]::ac) c ks (os.map<|encM c) o fO jt lF) (cz (x.isRef && !o) (.ret x c1)<|cz b (cz x.isRef (.ret (.doo aX<|os++[x]) c1)<|L1 x.v) L2):=by
 have t0:=uL c1 x;have t1:=iq x;have z2:(os.map<|encM c1).length<Sz:=ZG (encM c1)▸ho;rw[<- e];rw[ZB]at H2;cases b with
 |true=>cases tv rfl with
  |@ref w=>cases o with
   |false=>exact⟨_,OH h1 t0 t1⟩
   |true=>
    have A:op2 .add (.list<|os.map<|encM c1) (.list [encM c1<|.ref w])=some (.KK<|.list<|b5 c1<|os++[.ref w]):=by rw[eQ,ZB];exact(lN _ _).trans<|YX z2
    exact⟨_,RM h1 t0 t1 A⟩
  |@val v hv=>exact(H1 v).st λR i=>RL h1 t0 t1 rfl (Y0 hk) i
 |false=>cases o with
  |true=>rw[Bool.not_true,Bool.and_false];exact H2.st λR i=>RJ h1 t0 t1 (Y0 z2) i
  |false=>cases q:x.isRef with
   |true=>exact⟨_,OH h1 t0<|q▸t1⟩
   |false=>exact H2.st λR i=>RI h1 t0 (q▸t1) (gj x) (Y0 z2) i
theorem FX(G:Pg hs fs d){a5:Slot}:∀(ps:List (T×Bool))(ks:VX)(os:List R)(o:Bool)(c:C)(fO jt lF:Slot),(∀p∈ps, ∀c,CK hs c->HK N hs fd sd LE p.1 c/\Gr (Us hs) r c (lf hs LE p.1 c))->(∀p∈ps,p.2=true-> ∀c,TV (lf hs LE p.1 c).1)->
  CK hs c->(∀x∈os,Rk c r x)->ks.length+os.length+ps.length<=1000->
  P0 fd sd LE a4 a5 (yi N fd sd LE a4 a5 (ps.map Ku) c ks (os.map<|encM c) o fO jt lF) (bS ks os o (ps.map λp=>(lf hs LE p.1,p.2)) c):=by
 intro ps;induction ps with
 |nil=>intro ks os o c fO jt lF _ _ _ _ _;exact bb ..
 |cons p ps ih=>
  intro ks os o c fO jt lF H HT k ha hl;have hg:=H _ Zt c k;have g:=hg.2.gw;have hl:=ZH▸hl;have ih:=λks os o fO jt lF=>ih ks os o (lf hs LE p.1 c).2 fO jt lF (eA H) (eA HT)<|g.ck G k;have EU:∀y∈os,Rk (lf hs LE p.1 c).2 r y:=λy hy=>(ha y hy).mono g.pre<|Zh _;exact FY (L1:=λv=>bS (ks++[v]) os o (ps.map λp=>(lf hs LE p.1,p.2)) (lf hs LE p.1 c).2) hg.1 (λe=>HT _ Zt e c) (oD g.pre ha)
   (L1 [ks.length,os.length,ps.length] (.p 1 .x) (.c 16777216) (.a (.a .x .y)<|.p 1 .z) (.c 1000) rfl hl) (L1 [os.length,ks.length,ps.length] (.p 1 .x) (.c 16777216) (.a (.a .y .x)<|.p 1 .z) (.c 1000) rfl hl)
   (λv=>ih _ _ _ _ _ _ EU (by refine O ZI<|O ZD ?_;exact(L1 [ks.length,os.length,ps.length] (.a (.a (.p 1 .x) .y) .z) (.c 1000) (.a (.a .x .y)<|.p 1 .z) (.c 1000) rfl hl)))
   (ih _ _ _ _ _ _ (fK EU hg.2.rk) (by rw[ZI,ZD];exact(L1 [ks.length,os.length,ps.length] (.a (.a .x<|.p 1 .y) .z) (.c 1000) (.a (.a .x .y)<|.p 1 .z) (.c 1000) rfl hl)))
end
noncomputable def bg(hs:List Hd):VY:=hs.map λh=>(.str h.nm,.tuple<|h.wn.map .bool)
theorem gX:∀{hs:List Hd},(hs.map (·.nm)).Nodup->h∈hs->aR (bg hs) h.nm=some (.tuple<|h.wn.map .bool):=by intro hs;induction hs with
 |nil=>exact λaa m=>by cases m
 |cons g hs ih=>
  intro nd m;rw[Zz,nodup_cons]at nd;show(if g.nm=h.nm then some (tuple<|g.wn.map .bool) else aR (bg hs) h.nm)=_
  rcases mem_cons.mp m with rfl|m
  .exact YX rfl
  .exact O (YY λe=>nd.1<|mem_map.mpr ⟨h,m,e.symm⟩) (ih nd.2 m)
theorem lq:∀(ts:List T)(bs:List Bool),fq (aZ ts) (bs.map .bool)=(ts.zip bs).map Ku:=by intro ts;induction ts with
 |nil=>intro bs;cases bs<;>rfl
 |cons t ts ih=>intro bs;cases bs with
  |nil=>rfl
  |cons b bs=>show _::_=_::_;rw[ih];rfl
section
variable {hs:List Hd}{fs:List Fun}{d r N:Nat}{fd LE:VY}{kn:VT}
theorem zW(G:Pg hs fs d)(hm:h∈hs)(hh:∀x∈kn, ∃v,aR LE x=some v/\v∈Sl)(hl:ps.length=h.wn.length)(rc:∀p∈ps.zip h.wn,p.2=true->Tm kn p.1)
  (H:∀t∈ps, ∀c,CK hs c->HK (N+61) hs fd (bg hs) LE t c/\Gr (Us hs) r c (lf hs LE t c)) (H':∀t∈ps, ∀c,Gr (Us hs) r c<|lf hs LE t c) {c:C} (k:CK hs c):
  cF P (N+62) false 47 (hU fd (bg hs) c++[vK h.nm,.fz<|.tuple<|aZ ps,.fz<|.dict LE])=some (.ok<|.fz<|encM (lf hs LE (.call h.nm ps) c).2 (lf hs LE (.call h.nm ps) c).1,hU fd (bg hs) (lf hs LE (.call h.nm ps) c).2):=by
 have h6:h.wn.length<=6:=by exact O (G.wn h hm)<|G.le h hm
 have e:((ps.zip h.wn).map λp=>(lf hs LE p.1,p.2))=(jl hs LE ps).zip h.wn:=by rw[gy];refine O zip_map_left ?_;rfl
 have lp:=FX G (a4:=vK h.nm) (a5:=.fz<|.tuple<|aZ ps) (fd:=fd) (sd:=bg hs) (ps.zip h.wn) [] [] false c .no .no .no (λp hp=>H p.1 (of_mem_zip (a:=p.1) (b:=p.2) hp).1) (λp hp e c=>(yx hh (rc p hp e) c).2) k (λaa h=>by cases h)
  (by refine O length_zip ?_;rw[hl,min_self];show 0+0+h.wn.length<=1000;exact(L1 [h.wn.length] (.a (.p 0<|.c 0) .x) (.c 1000) .x (.c 6) rfl h6))
 have lk:=pJ hh H' hl rc (by refine O hl ?_;exact(L1 [h.wn.length] .x (.c 8) .x (.c 6) rfl h6)) c;refine O (show lf hs LE (.call h.nm ps) c=vH h.nm (bS [] [] false ((jl hs LE ps).zip<|qs hs h.nm) c) from rfl)<|O (uQ G.nd hm) ?_;rw[e]at lp;generalize bS [] [] false ((jl hs LE ps).zip h.wn) c=l at lp lk ⊢;cases lk with
 |ret g=>refine aB lp λz lp=>?_;exact aG [.d 0<|(gX G.nd hm),.l 0<|(Y2 some<|lq ps h.wn),.lp 0 lp] rfl
 |@next ks os o c' g h1 h2 h3 h4 h5=>
  have u:Us hs (h.nm,ks):=⟨⟨h,hm,rfl,h2⟩,h1⟩
  have nm:=u8 (N+60) fd (bg hs) (g.ck G k) u;have e:encM (gU c' (h.nm,ks)) (.call h.nm ks os) = .tuple [.str cV,.str<|lP<|dj (gU c' (h.nm,ks)) (h.nm,ks),.tuple<|os.map<|encM c']:=by rw[<- oD (.add u:Gw (Us hs) c' (gU c' (h.nm,ks))).pre h4,<- eQ];rfl
  show _=some (Except.ok<|Rv.fz<|encM (gU c' (h.nm,ks))<|.call h.nm ks os,_)
  refine O e ?_;generalize lP (dj (gU c' (h.nm,ks)) (h.nm,ks))=w at nm ⊢;exact aG [.d 0<|(gX G.nd hm),.l 0<|(Y2 some<|lq ps h.wn),.lp 0 lp,.c 1 nm] rfl
theorem Ju(G:Pg hs fs d){b e:T}(H:∀t,t=a\/t=b\/t=e-> ∀c,CK hs c->HK (N+1) hs fd sd LE t c/\Gr (Us hs) r c (lf hs LE t c))(k:CK hs c):
  cF P (N+2) false 48 (hU fd sd c++[.fz<|bT<|.iff [a,b,e],.fz<|.dict LE])=some (.ok<|.fz<|encM (lf hs LE (.iff [a,b,e]) c).2 (lf hs LE (.iff [a,b,e]) c).1,hU fd sd (lf hs LE (.iff [a,b,e]) c).2):=by
 have hb:=λc k=>H b (.inr<|.inl rfl) c k;have he:=λc k=>H e (.inr<|.inr rfl) c k;refine O (show lf hs LE (.iff [a,b,e]) c=PJ (lf hs LE b) (lf hs LE e) (lf hs LE a c) from rfl) ?_;obtain⟨h1,g⟩:=(H a (.inl rfl) c k)
 delta HK at h1;generalize lf hs LE a c=p at h1 g ⊢;obtain⟨x,c1⟩:=p;obtain⟨ye,gb⟩:=hb c1<|g.gw.ck G k;obtain⟨J2,ge⟩:=he c1<|g.gw.ck G k;have k2:=gb.gw.ck G<|g.gw.ck G k;obtain⟨CH,Rr⟩:=he _ k2;delta HK at ye J2 CH;have d4:Rk c1 r x->x.isRef=false->x.opn=true->cF P (N+2) false 48 (hU fd sd c++[.fz<|bT<|.iff [a,b,e],.fz<|.dict LE])=some (.ok<|.fz<|encM (lf hs LE e (lf hs LE b c1).2).2<|.iff x (lf hs LE b c1).1 (lf hs LE e (lf hs LE b c1).2).1,hU fd sd (lf hs LE e (lf hs LE b c1).2).2):=λhx q1 q2=>by
  have t1:=iq x;have t2:=gj x;rw[q1]at t1;rw[q2]at t2;have ee:encM (lf hs LE e (lf hs LE b c1).2).2 (.iff x (lf hs LE b c1).1 (lf hs LE e (lf hs LE b c1).2).1) = .tuple [.str iM,encM c1 x,encM (lf hs LE b c1).2 (lf hs LE b c1).1,encM (lf hs LE e (lf hs LE b c1).2).2 (lf hs LE e (lf hs LE b c1).2).1]:=by refine O (jI (gb.gw.pre.trans Rr.gw.pre) hx).symm<|O (jI Rr.gw.pre gb.rk).symm ?_;rfl
  refine O ee ?_;generalize lf hs LE b c1=q at ye CH ⊢;have y:=q.1;have c2:=q.2;generalize lf hs LE e c2=q at CH ⊢;exact aG [.c 1 h1,.d 0<|(uL c1 x),.b 0 t1,.d 1<|(uL c1 x),.b 0 t2,.c 2 ye,.c 1 CH] rfl
 cases x with
 |val v=>
  have hv:Vg v:=by cases r with
   |zero=>exact g.rk.elim
   |succ r=>exact g.rk
  rcases hv.k with⟨i,rfl,_⟩|⟨l,rfl,_⟩
  .have ce:aI .eq (.int i) (.int 0)=some (i==0):=rfl;show _=some (Except.ok<|Rv.fz<|encM (cz (i==0) (lf hs LE e c1)<|lf hs LE b c1).2 (cz (i==0) (lf hs LE e c1)<|lf hs LE b c1).1,hU fd sd (cz (i==0) (lf hs LE e c1)<|lf hs LE b c1).2)
   generalize lf hs LE b c1=q at ye ⊢;generalize lf hs LE e c1=q' at J2 ⊢;obtain⟨y,c2⟩:=q;cases q:i==0 with
   |true=>rw[q]at ce;exact aG [.c 1 h1,.b 10 ce,.c 2 J2] rfl
   |false=>rw[q]at ce;dsimp only[cz];exact aG [.c 1 h1,.b 10 ce,.c 2 ye] rfl
  .exact aG [.c 1 h1] rfl
 |ref w=>exact aG [.c 1 h1] rfl
 |nam x=>exact d4 g.rk rfl rfl
 |iff x y z=>exact d4 g.rk rfl rfl
 |doo x y=>exact d4 g.rk rfl rfl
 |call x y z=>exact d4 g.rk rfl rfl
end
end Lq
end
section
set_option backward.match.sparseCases false
namespace Lq
open PySem Mv
section
variable {hs:List Hd}{fs:List Fun}{d:Nat}{fd LE:VY}{kn:VT}
theorem Ac(G:Pg hs fs d)(hh:∀x∈kn, ∃v,aR LE x=some v/\v∈Sl)(hv:∀x v,aR LE x=some v->Vg v):∀(r:Nat)(t:T),Ok hs kn r t-> ∀(n:Nat)(c:C),CK hs c->HK (n+2*r+61) hs fd (bg hs) LE t c:=by intro r;have gr:=Ab G.nd (λh hm=>by refine O (G.wn h hm) ?_;exact G.le h hm) hh hv;induction r with
 |zero=>exact λaa h=>h.elim
 |succ r ih=>intro t ht n c k;generalize hN:n+2*r=N;cases t with
  |val v=>show _=some (Except.ok<|Rv.fz<|encM c<|.val v,hU fd (bg hs) c);exact aG [] rfl
  |ref x=>show _=some (Except.ok<|Rv.fz<|encM c<|.ref x,hU fd (bg hs) c);exact aG [] rfl
  |nam x=>
   show _=some (Except.ok (Rv.fz (encM c (match aR LE x with
   |some v=>R.val v
   |none=>R.nam x))),hU fd (bg hs) c)
   have hi:EG (.str x) (.dict LE)=some (aR LE x).isSome:=rfl;have hx:cW (.dict LE) (.str x)=aR LE x:=rfl;generalize aR LE x=q at hi hx;cases q with
   |some v=>exact aG [.b 8 hi,.d 2 hx] rfl
   |none=>exact aG [.b 8 hi] rfl
  |iff ps=>
   refine kF (Jw ht.1) λa b e Q=>?_;subst Q;have h:=Ju (N:=N+60) (fd:=fd) (sd:=bg hs) (LE:=LE) (a:=a) (b:=b) (e:=e) G (λt q c k=>by
    have m:t∈ [a,b,e]:=by rcases q with rfl|rfl|rfl<;>simp
    exact⟨by have:=ih t (ht.2 t m) n c k;rw[hN]at this;exact this,gr r t (ht.2 t m) c⟩) k
   exact aG [.c 9 h] rfl
  |doo op ps=>have h:=Jt (N:=N) (fd:=fd) (sd:=bg hs) (LE:=LE) G ht.1.1 ht.1.2 (λt m c k=>⟨by have:=ih t (ht.2 t m) n c k;rw[hN]at this;exact this,gr r t (ht.2 t m) c⟩) (λt m c=>gr r t (ht.2 t m) c) k;exact aG [.c 13 h] rfl
  |call f ps=>obtain⟨⟨h,hm,rfl,hl,rc⟩,hp⟩:=ht;have h:=zW (N:=N) (fd:=fd) (LE:=LE) G hm hh hl rc (λt m c k=>⟨by have:=ih t (hp t m) n c k;rw[hN]at this;exact this,gr r t (hp t m) c⟩) (λt m c=>gr r t (hp t m) c) k;exact aG [.c 13 h] rfl
end
noncomputable abbrev Bu(p:Str×Bool):D:=.tuple [.str p.1,.bool p.2]
theorem lr:∀(ps:VT)(bs:List Bool),fq (ps.map .str) (bs.map .bool)=(ps.zip bs).map Bu:=by intro ts;induction ts with
 |nil=>intro bs;cases bs<;>rfl
 |cons t ts ih=>intro bs;cases bs with
  |nil=>rfl
  |cons b bs=>show _::_=_::_;rw[ih];rfl
noncomputable def og:VT->List Bool->VT
 |x::ps,b::bs=>if b then og ps bs else x::og ps bs
 |_,_=>[]
theorem Ep(N:Nat)(a0 a1 a2 a3 a4 a5 a6 a7 a8 a9 im kR n5 vO vN:Slot):∀(ps:VT)(bs:List Bool)(yP IQ:Slot),
  bB ⟨P.glob,cF P N,[0,1,2,3],false⟩ [a0,a1,a2,a3,a4,a5,a6,a7,a8,a9,im,kR,n5,yP,IQ,vO,vN] (ae 13) (.tup [13,14]) [ae 14] ((ps.zip bs).map Bu)=some (.ok<|(cw ps bs).map .str,[a0,a1,a2,a3,a4,a5,a6,a7,a8,a9,im,kR,n5,.no,.no,vO,vN]):=by
 intro ps;induction ps with
 |nil=>intro bs yP IQ;cases bs<;>(refine O zip_nil_left ?_;rw[Zy,aL];rfl)
 |cons x ps ih=>intro bs yP IQ;cases bs with
  |nil=>refine O zip_nil_right ?_;rw[Zy,aL];rfl
  |cons b bs=>have q:=ih bs (.fz<|.str x)<|.fz<|.bool b;refine O zip_cons_cons<|O Zz ?_;cases b with
   |true=>show _=some (Except.ok<|(x::cw ps bs).map _,_);exact O Zz<|jS [.cp 1 q] rfl
   |false=>show _=some (Except.ok<|(cw ps bs).map _,_);exact jS [.cp 1 q] rfl
theorem CX(N:Nat)(a0 a1 a2 a3 a4 a5 a6 a7 a8 a9 im kR n5 vQ vP:Slot):∀(ps:VT)(bs:List Bool)(Uk Uj:Slot),
  bB ⟨P.glob,cF P N,[0,1,2,3],false⟩ [a0,a1,a2,a3,a4,a5,a6,a7,a8,a9,im,kR,n5,vQ,vP,Uk,Uj] (ae 15) (.tup [15,16]) [.not<|ae 16] ((ps.zip bs).map Bu)=some (.ok<|(og ps bs).map .str,[a0,a1,a2,a3,a4,a5,a6,a7,a8,a9,im,kR,n5,vQ,vP,.no,.no]):=by
 intro ps;induction ps with
 |nil=>intro bs yP IQ;cases bs<;>(refine O zip_nil_left ?_;rw[Zy,aL];rfl)
 |cons x ps ih=>intro bs yP IQ;cases bs with
  |nil=>refine O zip_nil_right ?_;rw[Zy,aL];rfl
  |cons b bs=>have q:=ih bs (.fz<|.str x)<|.fz<|.bool b;refine O zip_cons_cons<|O Zz ?_;cases b with
   |true=>show _=some (Except.ok<|(og ps bs).map _,_);exact jS [.cp 2 q] rfl
   |false=>show _=some (Except.ok<|(x::og ps bs).map _,_);exact O Zz<|jS [.cp 2 q] rfl
noncomputable def fdOf(fs:List Fun):VY:=fs.map λf=>(.str f.1.nm,.tuple [dq f.1.ps,bT f.2])
theorem Kh:∀{fs:List Fun}{x:Str}{f:Fun},j6 fs x=some f->aR (fdOf fs) x=some (.tuple [dq f.1.ps,bT f.2]):=by intro fs;induction fs with
 |nil=>intro x f h;exact am h
 |cons g fs ih=>
  intro x f h;have h:(if g.1.nm=x then some g else j6 fs x)=some f:=h;show(if g.1.nm=x then some (tuple [dq g.1.ps,bT g.2]) else aR (fdOf fs) x)=_
  by_cases q:g.1.nm=x
  .rw[YX q]at h ⊢;obtain rfl:=aE h;rfl
  .rw[YY q]at h ⊢;exact ih h
noncomputable abbrev ig(fs:List Fun)(k:Nat)(x:Case)(r:R)(c:C):D:=.tuple [.str<|lP k,dq<|(j6 fs x.1).elim [] λf=>og f.1.ps f.1.wn,encM c r]
theorem Oa(G:Pg hs fs d)(n k:Nat)(ck:CK hs c)(hx:c[k]?=some x):
  cF P (n+2*d+62) false 50 (hU (fdOf fs) (bg hs) c++[.fz<|.int k])=some (.ok<|.fz<|ig fs k x (Bd hs fs x c).1 (Bd hs fs x c).2,hU (fdOf fs) (bg hs) (Bd hs fs x c).2):=by
 have u:=ck.us x<|Zs hx;obtain⟨f,q⟩:=G.case u;have kl:k<c.length:=(List.getElem?_eq_some_iff.mp hx).1;have h1:cW (.list<|c.map ay) (.int k)=some (ay x):=by
  show bf (c.map ay) (k:Int)=_
  unfold bf;rw[YX<|ZV _,ZU,ZJ,hx];rfl
 have h2:=Kh q.at';have h3:=gX G.nd q.hm;rw[q.nm]at h3;have hz:b4 .zip [.tuple<|f.1.ps.map .str,.tuple<|f.1.wn.map .bool]=some ((f.1.ps.zip f.1.wn).map Bu):=Y2 some<|lr f.1.ps f.1.wn;have hd:=vE q.kd q.kl q.k6;obtain⟨h4,h5⟩:=Db<|Zg (le_of_lt kl) ck.le;have kc:=Ep (n+2*d+61) (.KK<|.dict<|fdOf fs) (.fz<|.dict<|bg hs) (.KK<|.list<|c.map ay) (.tab<|eR 0 c) (.fz<|.int k) (.fz<|.str x.1) (.fz<|.tuple x.2) (.fz<|dq f.1.ps) (.fz<|bT f.2) (.fz<|.tuple<|f.1.wn.map .bool) .no .no .no .no .no f.1.ps f.1.wn .no .no;have uc:=CX (n+2*d+61) (.KK<|.dict<|fdOf fs) (.fz<|.dict<|bg hs) (.KK<|.list<|c.map ay) (.tab<|eR 0 c) (.fz<|.int k) (.fz<|.str x.1) (.fz<|.tuple x.2) (.fz<|dq f.1.ps) (.fz<|bT f.2) (.fz<|.tuple<|f.1.wn.map .bool) (.KK<|.dict<|kv (cw f.1.ps f.1.wn) x.2) .no .no .no .no f.1.ps f.1.wn .no .no;have Ux:=Ac (fd:=fdOf fs) (LE:=kv (cw f.1.ps f.1.wn) x.2) (kn:=cw f.1.ps f.1.wn) G (λy hy=>by obtain⟨v,e,hv⟩:=tJ hy q.kl;exact⟨v,e,u.sl v hv⟩) (λy v e=>lB<|u.sl v<|tI e) d f.2 (G.ok f q.mem) n c ck;have lf:cF P (n+2*d+61) false 49 (hU (fdOf fs) (bg hs) c++[.fz<|bT f.2,.fz<|.dict<|kv (cw f.1.ps f.1.wn) x.2])=_:=Ux;have eb:Bd hs fs x c=Lq.lf hs (kv (cw f.1.ps f.1.wn) x.2) f.2 c:=by unfold Bd;rw[q.at'];rfl
 rw[eb];generalize Lq.lf hs (kv (cw f.1.ps f.1.wn) x.2) f.2 c=p at lf ⊢;obtain⟨r,c1⟩:=p;have ef:ig fs k x r c1 = .tuple [.str<|lP k,dq<|og f.1.ps f.1.wn,encM c1 r]:=by show tuple [_,dq<|(j6 fs x.1).elim [] _,_]=_;rw[q.at'];rfl
 show _=some (Except.ok<|Rv.fz<|ig fs k x r c1,hU (fdOf fs) (bg hs) c1)
 rw[ef];generalize hN:n+2*d=N at *;exact aG [.d 0 h1,.d 0 h2,.d 0 h3,.l 0 hz,.cp 0 kc,.v 0 hd,.l 0 hz,.cp 0 uc,.v 1 h4,.v 0 h5,.c 0 lf] rfl
theorem Jj{x:Str}(h:∀f∈fs,f.1.nm≠x):PX (fdOf fs) x:=λp hp=>by obtain⟨f,q⟩:=mem_map.mp hp;obtain rfl:=q.2;intro e;cases e;exact h f q.1 rfl
theorem wS(N:Nat)(a4 a5:Slot):∀(fs VM:List Fun)(s6 s7 s8:Slot),((VM++fs).map (·.1.nm)).Nodup->VM.length+fs.length<=1000->
  cm ⟨P.glob,cF P N,[],false⟩ [.KK<|.dict<|fdOf VM,.no,.no,.no,a4,a5,s6,s7,s8,.no] (.tup [6,7,8]) NB [6,7,8] (fs.map gR)=some (.ok .next,[.KK<|.dict<|fdOf<|VM++fs,.no,.no,.no,a4,a5,.no,.no,.no,.no]):=by
 intro fs;induction fs with
 |nil=>intro VM s6 s7 s8 _ _;refine O Zy ?_;rw[bb,ZO];rfl
 |cons f fs ih=>
  intro VM s6 s7 s8 nd hl;have hl:=ZH▸hl;have q:=ih (VM++[f]) (.fz<|.str f.1.nm) (.fz<|dq f.1.ps) (.fz<|bT f.2) (by rw[ZP];exact nd) (by refine O ZI<|O ZD ?_;exact(L1 [VM.length,fs.length] (.a (.p 1 .x) .y) (.c 1000) (.a .x<|.p 1 .y) (.c 1000) rfl hl));have nk:=Jj λg hg e=>by rw[ZB,nodup_append]at nd;exact nd.2.2 g.1.nm (mem_map.mpr ⟨g,hg,rfl⟩) f.1.nm Zt e
  have hs:Du (.dict<|fdOf VM) (.str f.1.nm) (.tuple [dq f.1.ps,bT f.2])=some (.dict<|fdOf<|VM++[f]):=by
   show(if (fdOf VM).length<Sz then some (dict<|dO (fdOf VM) f.1.nm _) else none)=_
   refine O (YX (by unfold fdOf;rw[ZG];show VM.length<16777216;exact(L1 [VM.length,fs.length] (.p 1 .x) (.c 16777216) (.a .x<|.p 1 .y) (.c 1000) rfl hl))) ?_;unfold dO;refine O (kY nk) ?_;unfold fdOf;refine O ZB ?_;rfl
  rw[ZP]at q;exact O Zz<|eM [.d 0 hs,.lp 0 q] rfl
theorem ED(N:Nat)(G:Pg hs fs d)(sd:VY):cF P (N+1) false 44 [.no,.no,.no,.no,.fz<|dW fs,.fz<|.dict sd]=some (.ok<|.fz .none,hU (fdOf fs) sd []):=by have h5:=G.h5;have lp:=wS N (.fz<|dW fs) (.fz<|.dict sd) fs [] .no .no .no (by rw[Zq];have:=G.nd;rw[<- G.hd,map_map]at this;exact this) (by rw[<- G.hd,ZG]at h5;show 0+fs.length<=1000;exact(L1 [fs.length] (.a (.c 0) .x) (.c 1000) .x (.c 5) rfl h5));rw[Zq]at lp;exact aG [.lp 2 lp] rfl
noncomputable def cO(fs:List Fun)(c:C):Nat->C->List R->VX
 |k,x::M,r::rs=>ig fs k x r c::cO fs c (k+1) M rs
 |_,_,_=>[]
section
variable {fs:List Fun}{c:C}
theorem gD(k:Nat)(M:C):cO fs c k M []=[]:=by cases M<;>rfl
theorem AZ{r:R}:∀{X:List R}{k:Nat}{M:C},M[X.length]?=some x->cO fs c k M (X++[r])=cO fs c k M X++[ig fs (k+X.length) x r c]:=by intro X;induction X with
 |nil=>intro k M h;cases M with
  |nil=>exact am h
  |cons y M=>obtain rfl:=aE h;show _::cO fs c (k+1) M []=_;rw[gD,gD];rfl
 |cons d X ih=>intro k M h;cases M with
  |nil=>cases h
  |cons y M=>
   show _::cO fs c (k+1) M (X++[r])=_::(cO fs c (k+1) M X++_)
   refine O (ih (M:=M) h)<|O (show k+1+X.length=k+(X.length+1) from Nat.succ_add_eq_add_succ k X.length) ?_;rfl
theorem E2{e:C}:∀{X:List R}{k:Nat}{M:C},X.length<=M.length->cO fs c k (M++e) X=cO fs c k M X:=by intro X;induction X with
 |nil=>intro k M _;rw[gD,gD]
 |cons d X ih=>intro k M h;cases M with
  |nil=>exact(Zb _ h).elim
  |cons y M=>exact Y2 (_ :: ·)<|ih (M:=M)<|Zi h
theorem E0(p:c <+:c') :∀{X:List R}{k:Nat}{M:C},(∀r∈X,Rk c n r)->cO fs c' k M X=cO fs c k M X:=by intro X;induction X with
 |nil=>intro k M _;rw[gD,gD]
 |cons d X ih=>intro k M h;cases M with
  |nil=>rfl
  |cons y M=>
   show ig fs k y d c'::_=ig fs k y d c::_
   refine O (ih (M:=M)<|eA h) ?_;show tuple [_,_,encM c' d]::_=tuple [_,_,encM c d]::_
   exact O (jI p<|h d Zt) rfl
theorem vy:∀{X:List R}{k:Nat}{M:C},X.length<=M.length->(cO fs c k M X).length=X.length:=by intro X;induction X with
 |nil=>intro k M _;rw[gD];rfl
 |cons d X ih=>intro k M h;cases M with
  |nil=>exact(Zb _ h).elim
  |cons y M=>exact Y2 (· + 1)<|ih<|Zi h
end
structure r9(hs:List Hd)(d:Nat)(X:List R)(c:C):Prop where
 ck:CK hs c
 le:X.length<=c.length
 rk:∀r∈X,Rk c d r
theorem r9.step(G:Pg hs fs d){X:List R}(o:r9 hs d X c)(hx:c[X.length]?=some x):r9 hs d (X++[(Bd hs fs x c).1]) (Bd hs fs x c).2:=by have g:=G.gr (o.ck.us x<|Zs hx) c;refine⟨g.gw.ck G o.ck,?_,fK (λr hr=>(o.rk r hr).mono g.gw.pre<|Zh _) g.rk⟩;exact O ZI<|Zg (List.getElem?_eq_some_iff.mp hx).1 g.gw.pre.length_le
theorem N6(B:Case->Sf)(n:Nat)(X:List R)(c:C):go B (n+1) X c=match c[X.length]? with
  |none=>some (X,c)
  |some x=>go B n (X++[(B x c).1]) (B x c).2:=rfl
noncomputable abbrev T6:Ex:=.cmp .lt Kv<|.bi .len [.pl<|.var 9]
theorem pZ(G:Pg hs fs d)(m:Nat)(a0 a1 a2:Slot):∀(n:Nat)(X:List R)(c:C)(iH:List R)(c':C),go (Bd hs fs) n X c=some (iH,c')->r9 hs d X c->
  r9 hs d iH c'/\iH.length=c'.length/\c <+:c'/\yb ⟨P.glob,cF P<|m+2*d+62,[],false⟩ ([a0,a1,a2,.KK<|.list<|cO fs c 0 c X,.no,.no,.no]++hU (fdOf fs) (bg hs) c) T6 Mg [] n=some (.ok .next,[a0,a1,a2,.KK<|.list<|cO fs c' 0 c' iH,.no,.no,.no]++hU (fdOf fs) (bg hs) c'):=by
 intro n;induction n with
 |zero=>intro X c iH c' h;exact am h
 |succ n ih=>
  intro X c iH c' h o;rw[N6]at h;have l1:=vy (fs:=fs) (c:=c) (k:=0) o.le;have b1:jm .len [.list<|cO fs c 0 c X]=some (.fz<|.int X.length):=by rw[jN];show some (Rv.fz<|.int ((cO fs c 0 c X).length:Nat))=_;rw[l1]
  have b2:jm .len [.list<|c.map ay]=some (.fz<|.int c.length):=by rw[jN];show some (Rv.fz<|.int ((c.map ay).length:Nat))=_;rw[ZG]
  cases q:c[X.length]? with
  |none=>
   rw[q]at h;have h:some (X,c)=some (iH,c'):=h;cases h;have sw:=List.getElem?_eq_none_iff.mp q;have lt:aI .lt (.int X.length) (.int c.length)=some false:=by rw[uz,Y1];exact λh=>Nat.not_lt.mpr sw<|ofNat_lt.mp h
   refine⟨o,Zk o.le sw,prefix_refl _,?_⟩;generalize ((X.length:Nat):Int)=i at b1 lt;generalize ((c.length:Nat):Int)=j at b2 lt;exact PA [.v 0 b1,.v 0 b2,.b 0 lt] rfl
  |some x=>
   rw[q]at h;have hl:=(List.getElem?_eq_some_iff.mp q).1;have lt:aI .lt (.int X.length) (.int c.length)=some true:=by rw[uz,Y0<|ofNat_lt.mpr hl]
   have g:=G.gr (o.ck.us x<|Zs q) c;have Q:=ih _ _ _ _ h<|o.step G q;have o':=Q.1;have e1:=Q.2.1;have p1:=Q.2.2.1;have w:=Q.2.2.2;refine⟨o',e1,g.gw.pre.trans p1,?_⟩;have f:=Oa G m X.length o.ck q;have ef:cO fs (Bd hs fs x c).2 0 (Bd hs fs x c).2 (X++[(Bd hs fs x c).1])=cO fs c 0 c X++[ig fs X.length x (Bd hs fs x c).1 (Bd hs fs x c).2]:=by
    obtain⟨e,he⟩:=g.gw.pre;have mL:(Bd hs fs x c).2[X.length]?=some x:=by rw[<- he,ZM hl];exact q
    rw[AZ mL,Y8,E0 (c:=c) g.gw.pre o.rk];congr 1
    conv=>lhs;rw[<- he]
    exact E2 o.le
   rw[ef]at w;have hz:decide ((cO fs c 0 c X).length<Sz)=true:=Y0 (by rw[l1];have:=o.ck.le;show X.length<16777216;exact(Ln [X.length,length c] (.w (.p 1 .x)<|.c 16777216) [Gl (.p 1 .x) .y,Gl .y<|.c 2315] rfl hl this));generalize ig fs X.length x (Bd hs fs x c).1 (Bd hs fs x c).2=E at f w;generalize (Bd hs fs x c).2=c1 at f w;generalize m+2*d=N at *;generalize ((X.length:Nat):Int)=i at b1 lt f;generalize ((c.length:Nat):Int)=j at b2 lt;exact PA [.v 0 b1,.v 0 b2,.b 0 lt,.v 1 b1,.c 0 f,.t 0 hz,.lp 0 w] rfl
end Lq
end
section
namespace Lq
open PySem Mv
mutual
noncomputable def iR:T->List T
 |.val _=>[]
 |.nam _=>[]
 |.ref _=>[]
 |.iff ps=>cq ps
 |.doo _ ps=>cq ps
 |.call f ps=>cq ps++[.call f ps]
noncomputable def cq:List T->List T
 |[]=>[]
 |t::ts=>iR t++cq ts
end
def Pw(m:Nat)(t:T):Prop:=kU (λr=>cF P m false 8 [.fz<|bT t]=some (.ok r,[])) (λr=>r = .fz (.list<|aZ<|iR t)\/r = .KK (.list<|aZ<|iR t))
theorem FT(m:Nat)(a0 a1:Slot):∀(ts L0:List T)(s3:Slot),(∀u∈ts,Pw m u)->L0.length+(cq ts).length<=Sz->cm ⟨P.glob,cF P m,[],false⟩ [a0,a1,.KK<|.list<|aZ L0,s3] (.one 3) RH [3] (aZ ts)=some (.ok .next,[a0,a1,.KK<|.list<|aZ<|L0++cq ts,.no]):=by intro ts;induction ts with
 |nil=>intro L0 s3 _ _;refine O (show cq []=[] from rfl) ?_;rw[ZO];exact bb ..
 |cons u ts ih=>
  intro L0 s3 hF hl;obtain⟨r,hu,hr⟩:=hF u Zt;have hl:L0.length+(iR u++cq ts).length<=Sz:=hl;have hl:=ZI▸hl;have ad:op2 .add (.list<|aZ L0) (.list<|aZ<|iR u)=some (.KK<|.list<|aZ L0++aZ (iR u)):=by rw[lN,YX];rw[fi,fi];exact(L1 [L0.length,(iR u).length,(cq ts).length] (.a .x .y) (.c 16777216) (.a .x<|.a .y .z) (.c 16777216) rfl hl)
  have q:=ih (L0++iR u) (.fz<|bT u) (eA hF) (by refine O ZI ?_;exact(L1 [L0.length,(iR u).length,(cq ts).length] (.a (.a .x .y) .z) (.c 16777216) (.a .x<|.a .y .z) (.c 16777216) rfl hl));rw[ie,ZP,show iR u++cq ts=cq (u::ts) from rfl]at q;refine O (show aZ (u::ts)=bT u::aZ ts from rfl) ?_;rcases hr with rfl|rfl
  .exact eM [.c 0 hu,.v 0 ad,.lp 0 q] rfl
  .exact eM [.c 0 hu,.v 0 ad,.lp 0 q] rfl
theorem BV{u:T}:∀{ts:List T},u∈ts->(iR u).length<=(cq ts).length:=by intro ts;induction ts with
 |nil=>intro h;cases h
 |cons t ts ih=>
  intro h;show _<=(iR t++cq ts).length
  refine O ZI ?_;rcases mem_cons.mp h with rfl|h
  .exact Zl _ _
  .exact Zg (ih h) (Nat.le_add_left _ _)
section
variable {hs:List Hd}{kn:VT}
theorem rS(n:Nat):∀(r:Nat)(t:T),Ok hs kn r t->(iR t).length<=Sz->Pw (n+r) t:=by intro r;induction r with
 |zero=>exact λaa h=>h.elim
 |succ r ih=>
  intro t ht tO;generalize hN:n+r=N at *;have go:∀ts:List T,(∀t∈ts,Ok hs kn r t)->(cq ts).length<=Sz-> ∀a0 a1:Slot,cm ⟨P.glob,cF P N,[],false⟩ [a0,a1,.KK<|.list [],.no] (.one 3) RH [3] (aZ ts)=some (.ok .next,[a0,a1,.KK<|.list<|aZ<|cq ts,.no]):=λts h1 h2 a0 a1=>
   FT N a0 a1 ts [] .no (λu hu=>ih u (h1 u hu)<|Zg (BV hu) h2) (by show 0+(cq ts).length<=Sz;rw[Y8];exact h2)
  cases t with
  |val d=>exact⟨.KK<|.list [],(aG [] rfl),.inr rfl⟩
  |nam x=>exact⟨.KK<|.list [],(by exact aG [] rfl),.inr rfl⟩
  |ref x=>exact⟨.KK<|.list [],(aG [] rfl),.inr rfl⟩
  |iff ps=>refine⟨.fz<|.list<|aZ<|cq ps,?_,.inl rfl⟩;exact aG [.v 6<|(jr (.str iM)<|aZ ps),.lp 1<|(go ps ht.2 tO (.fz<|bT<|.iff ps)<|.fz<|.tuple<|aZ ps)] rfl
  |doo f ps=>refine⟨.fz<|.list<|aZ<|cq ps,?_,.inl rfl⟩;exact aG [.lp 8<|(go ps ht.2 tO (.fz<|bT<|.doo f ps)<|.fz<|.tuple<|aZ ps)] rfl
  |call f ps=>
   have tO:(cq ps++[T.call f ps]).length<=Sz:=tO;rw[ZI]at tO;have tO:=ZD▸tO;have lp:=go ps ht.2 (le_of_succ_le tO) (.fz<|bT<|.call f ps)<|.fz<|.tuple<|aZ ps;have hz:decide ((aZ<|cq ps).length<Sz)=true:=Y0 (by rw[fi];exact tO);refine⟨.fz<|.list<|aZ (cq ps)++[bT<|.call f ps],?_,.inl ?_⟩
   .rw[show bT (.call f ps) = .tuple [.str cV,.str f,.tuple<|aZ ps] from rfl]at lp ⊢;generalize aZ ps=E at lp ⊢;exact aG [.lp 8 lp,.t 3 hz] rfl
   .refine O (show iR (.call f ps)=cq ps++[.call f ps] from rfl) ?_;rw[ie];rfl
theorem EE(x:Str)(l:VT):EG (.str x) (.list<|l.map .str)=some (dM x l):=k7 x l
theorem wa(n:Nat):∀(r:Nat)(t:T),Ok hs kn r t->Tm kn t->cF P (n+r) false 9 [.fz<|bT t,sN kn]=GI true:=by intro r;induction r with
 |zero=>exact λaa h=>h.elim
 |succ r ih=>intro t ht tm;generalize hN:n+r=N at *;cases tm with
  |val h=>exact aG [] rfl
  |ref=>exact aG [] rfl
  |@nam x h=>exact aG [.b 4<|((EE x kn).trans<|Y2 some<|cL.mpr h)] rfl
  |@doo op t ho tm=>exact aG [.b 7<|((k7 op [bq,cA,cB]).trans<|Y2 some<|cL.mpr ho),.c 3<|(ih t (ht.2 t Zt) tm)] rfl
end
theorem Ok.mono:∀{r s:Nat}{t:T},Ok hs kn r t->r<=s->Ok hs kn s t:=by intro r;induction r with
 |zero=>exact λh aa=>h.elim
 |succ r ih=>intro s t h hs;cases s with
  |zero=>exact(Zb _ hs).elim
  |succ s=>cases t with
   |val d=>exact h
   |nam x=>trivial
   |ref x=>trivial
   |iff ps=>exact⟨h.1,λt m=>ih (h.2 t m)<|Zi hs⟩
   |doo op ps=>exact⟨h.1,λt m=>ih (h.2 t m)<|Zi hs⟩
   |call f ps=>exact⟨h.1,λt m=>ih (h.2 t m)<|Zi hs⟩
inductive uI(hs:List Hd)(kn:VT)(r:Nat):T->Prop
 |mk {h:Hd} {ps:List T}:h∈hs->(∀p∈ps.zip h.wn,p.2=true->Tm kn p.1)->(∀t∈ps,Ok hs kn r t)->uI hs kn r (.call h.nm ps)
theorem mj{Q:T->Prop}:∀{ts:List T},(∀t∈ts, ∀u∈iR t,Q u)-> ∀u∈cq ts,Q u:=by intro ts;induction ts with
 |nil=>intro _ u h;cases h
 |cons t ts ih=>
  intro H u h;rcases mem_append.mp (show u∈iR t++cq ts from h) with h|h
  .exact H t Zt u h
  .exact ih (eA H) u h
theorem KR{s:Nat}:∀{r:Nat}{t:T},Ok hs kn r t->r<=s-> ∀u∈iR t,uI hs kn s u:=by intro r;induction r with
 |zero=>exact λh aa=>h.elim
 |succ r ih=>intro t h hr u m;have hr:=le_of_succ_le hr;cases t with
  |val d=>cases m
  |nam x=>cases m
  |ref x=>cases m
  |iff ps=>exact mj (λt mt=>ih (h.2 t mt) hr) u m
  |doo op ps=>exact mj (λt mt=>ih (h.2 t mt) hr) u m
  |call f ps=>
   rcases mem_append.mp (show u∈cq ps++[T.call f ps] from m) with m|m
   .exact mj (λt mt=>ih (h.2 t mt) hr) u m
   .refine O (mem_singleton.mp m) ?_;obtain⟨⟨g,hg,rfl,_,rc⟩,hp⟩:=h;exact .mk hg rc λt mt=>(hp t mt).mono hr
abbrev PH(kn:VT)(s:Slot):Prop:=s = .KK (.list<|kn.map .str)\/s=sN kn
theorem HR(N:Nat)(kn:VT)(a0 a1 a2 a3 a4 a6 a9 im:Slot):∀(ps:List (T×Bool))(s5 s7 s8:Slot),PH kn s5->(∀p∈ps,p.2=true->cF P N false 9 [.fz<|bT p.1,sN kn]=GI true)->
  ∃su,cm ⟨P.glob,cF P N,[],false⟩ [a0,a1,a2,a3,a4,s5,a6,s7,s8,a9,im] (.tup [7,8]) Sp [7,8] (ps.map Ku)=some (.ok .next,[a0,a1,a2,a3,a4,su,a6,.no,.no,a9,im])/\PH kn su:=by
 intro ps;induction ps with
 |nil=>intro s5 s7 s8 k _;exact⟨s5,by refine O Zy ?_;exact bb ..,k⟩
 |cons p ps ih=>
  intro s5 s7 s8 k H;obtain⟨t,b⟩:=p;have H':∀p∈ps,p.2=true->cF P N false 9 [.fz<|bT p.1,sN kn]=GI true:=(eA H)
  refine O Zz ?_;cases b with
  |true=>
   have h:=H _ Zt rfl;obtain⟨su,Q⟩:=ih (sN kn) (.fz<|bT t) (.fz<|.bool true) (.inr rfl) H';refine⟨su,?_,Q.2⟩;rcases k with rfl|rfl
   .exact eM [.c 1 h,.lp 2<|Q.1] rfl
   .exact eM [.c 1 h,.lp 2<|Q.1] rfl
  |false=>obtain⟨su,z⟩:=ih s5 (.fz<|bT t) (.fz<|.bool false) k H';refine⟨su,?_,z.2⟩;exact eM [.lp 2<|z.1] rfl
theorem K0(G:Pg hs fs d)(N r:Nat)(kn:VT)(a0 a2 a3 a4 a9 im:Slot):∀(us:List T)(s5 s6 s7 s8:Slot),PH kn s5->(∀u∈us,uI hs kn r u)->
  ∃su,cm ⟨P.glob,cF P<|N+r,[],false⟩ [a0,.fz<|.dict<|bg hs,a2,a3,a4,s5,s6,s7,s8,a9,im] (.one 6) TN [6,7,8] (aZ us)=some (.ok .next,[a0,.fz<|.dict<|bg hs,a2,a3,a4,su,.no,.no,.no,a9,im])/\PH kn su:=by
 intro us;induction us with
 |nil=>intro s5 s6 s7 s8 k _;exact⟨s5,bb ..,k⟩
 |cons u us ih=>intro s5 s6 s7 s8 k H;cases(H u Zt) with
  |@mk h ps hm rc hok=>obtain⟨su,z⟩:=HR (N+r) kn a0 (.fz<|.dict<|bg hs) a2 a3 a4 (.fz<|bT<|.call h.nm ps) a9 im (ps.zip h.wn) s5 .no .no k λp hp e=>wa N r p.1 (hok p.1 (of_mem_zip (a:=p.1) (b:=p.2) hp).1)<|rc p hp e;obtain⟨Qk,Q⟩:=ih su (.fz<|bT<|.call h.nm ps) .no .no z.2<|eA H;refine⟨Qk,?_,Q.2⟩;exact O (show aZ (T.call h.nm ps::us)=bT (.call h.nm ps)::aZ us from rfl)<|eM [.d 2<|(gX G.nd hm),.l 0<|(Y2 some<|lq ps h.wn),.lp 0<|z.1,.lp 0<|Q.1] rfl
theorem qS(N:Nat)(a0 a1 a2 a3 a4 a5 a6 a7 a8:Slot):∀(ps:VT)(bs:List Bool)(s9 fO:Slot),
  bB ⟨P.glob,cF P N,[],false⟩ [a0,a1,a2,a3,a4,a5,a6,a7,a8,s9,fO] (ae 9) (.tup [9,10]) [ae 10] ((ps.zip bs).map Bu)=some (.ok<|(cw ps bs).map .str,[a0,a1,a2,a3,a4,a5,a6,a7,a8,.no,.no]):=by
 intro ps;induction ps with
 |nil=>intro bs yP IQ;cases bs<;>(refine O zip_nil_left ?_;rw[Zy,aL];rfl)
 |cons x ps ih=>intro bs yP IQ;cases bs with
  |nil=>refine O zip_nil_right ?_;rw[Zy,aL];rfl
  |cons b bs=>have q:=ih bs (.fz<|.str x)<|.fz<|.bool b;refine O zip_cons_cons<|O Zz ?_;cases b with
   |true=>show _=some (Except.ok<|(x::cw ps bs).map _,_);exact O Zz<|jS [.cp 1 q] rfl
   |false=>show _=some (Except.ok<|(cw ps bs).map _,_);exact jS [.cp 1 q] rfl
theorem JD(G:Pg hs fs d)(N:Nat)(a0:Slot):∀(gs:List Fun)(s2 s3 s4 s5 s6 s7 s8:Slot),(∀f∈gs,f∈fs)->(∀f∈gs,(iR f.2).length<=Sz)->
  cm ⟨P.glob,cF P<|N+d,[],false⟩ [a0,.fz<|.dict<|bg hs,s2,s3,s4,s5,s6,s7,s8,.no,.no] (.tup [2,3,4]) S9 [2,3,4,5,6,7,8] (gs.map gR)=some (.ok .next,[a0,.fz<|.dict<|bg hs,.no,.no,.no,.no,.no,.no,.no,.no,.no]):=by
 intro gs;induction gs with
 |nil=>intro s2 s3 s4 s5 s6 s7 s8 _ _;exact O Zy<|bb ..
 |cons f gs ih=>
  intro s2 s3 s4 s5 s6 s7 s8 H1 H2;have hf:=H1 f Zt;have hm:f.1∈hs:=by exact O G.hd.symm<|mem_map.mpr ⟨f,hf,rfl⟩
  obtain⟨r,ci,hr⟩:=rS N d f.2 (G.ok f hf)<|H2 f Zt;obtain⟨su,Q⟩:=K0 G N d (cw f.1.ps f.1.wn) a0 (.fz<|.str f.1.nm) (.fz<|dq f.1.ps) (.fz<|bT f.2) .no .no (iR f.2) (.KK<|.list<|(cw f.1.ps f.1.wn).map .str) .no .no .no (.inl rfl)<|KR (G.ok f hf)<|Zh _;refine O Zz ?_;generalize N+d=IO at *;rcases hr with rfl|rfl
  .exact eM [.d 0<|(gX G.nd hm),.l 0<|(Y2 some<|lr f.1.ps f.1.wn),.cp 0<|(qS (N+d) a0 (.fz<|.dict<|bg hs) (.fz<|.str f.1.nm) (.fz<|dq f.1.ps) (.fz<|bT f.2) .no .no .no .no f.1.ps f.1.wn .no .no),.c 0 ci,.lp 1<|Q.1,.lp 0<|(ih (.fz<|.str f.1.nm) (.fz<|dq f.1.ps) (.fz<|bT f.2) su .no .no .no (eA H1)<|eA H2)] rfl
  .exact eM [.d 0<|(gX G.nd hm),.l 0<|(Y2 some<|lr f.1.ps f.1.wn),.cp 0<|(qS (N+d) a0 (.fz<|.dict<|bg hs) (.fz<|.str f.1.nm) (.fz<|dq f.1.ps) (.fz<|bT f.2) .no .no .no .no f.1.ps f.1.wn .no .no),.c 0 ci,.lp 1<|Q.1,.lp 0<|(ih (.fz<|.str f.1.nm) (.fz<|dq f.1.ps) (.fz<|bT f.2) su .no .no .no (eA H1)<|eA H2)] rfl
theorem As(G:Pg hs fs d)(hc:∀f∈fs,(iR f.2).length<=Sz)(N:Nat):cF P (N+d+1) false 10 [.fz<|dW fs,.fz<|.dict<|bg hs]=GI true:=by generalize N+d=IO at *;exact aG [.lp 1<|(JD G N (.fz<|dW fs) fs .no .no .no .no .no .no .no (λaa h=>h) hc)] rfl
noncomputable def yu:Nat->C->VX
 |_,[]=>[]
 |k,x::c=>.tuple [.str<|lP k,.str x.1,.tuple x.2]::yu (k+1) c
theorem C1(N:Nat)(a0 a1 a2 a3 a7 a8 a9 im:Slot):∀(c:C)(k:Nat)(VM:VX)(s5 s6:Slot),VM.length=k->k+c.length<=2315->
  cm ⟨P.glob,cF P N,[],false⟩ [a0,a1,a2,a3,.KK<|.list VM,s5,s6,a7,a8,a9,im] (.tup [5,6]) Ml [5,6] (jH k<|c.map ay)=some (.ok .next,[a0,a1,a2,a3,.KK<|.list<|VM++yu k c,.no,.no,a7,a8,a9,im]):=by
 intro c;induction c with
 |nil=>intro k VM s5 s6 _ _;refine O (show yu k []=[] from rfl) ?_;rw[ZO];exact bb ..
 |cons x c ih=>intro k VM s5 s6 ha hl;have hl:=ZH▸hl;have Q:=Db (k:=k)<|Zg (Zl _ _) hl;have h1:=Q.1;have h2:=Q.2;have q:=ih (k+1) (VM++[.tuple [.str<|lP k,.str x.1,.tuple x.2]]) (.fz<|.int k) (.fz<|ay x) (by refine O ZI<|O ha ?_;rfl)<|L1 [k,c.length] (.a (.p 1 .x) .y) (.c 2315) (.a .x<|.p 1 .y) (.c 2315) rfl hl;rw[ZP]at q;have hz:decide (VM.length<Sz)=true:=Y0 (by refine O ha ?_;show k<16777216;exact(L1 [k,c.length] (.p 1 .x) (.c 16777216) (.a .x<|.p 1 .y) (.c 2315) rfl hl));refine O Zz<|O (show jH k (ay x::c.map ay) = .tuple [.int k,ay x]::jH (k+1) (c.map ay) from rfl)<|O (show yu k (x::c) = .tuple [.str<|lP k,.str x.1,.tuple x.2]::yu (k+1) c from rfl) ?_;generalize ((k:Nat):Int)=i at h1 q ⊢;exact eM [.v 0 h1,.v 0 h2,.t 2 hz,.lp 0 q] rfl
structure Wk(hs:List Hd)(fs:List Fun)(d:Nat)(x:Case)(X:List R)(c:C):Prop where
 go:go (Bd hs fs) Wz [] [x]=some (X,c)
 ok:r9 hs d X c
 len:X.length=c.length
 pre: [x] <+:c
theorem pH(u:Us hs x):CK hs [x]:=⟨List.pairwise_singleton _ _,λy hy=>by refine O (mem_singleton.mp hy) ?_;exact u,by show 1<=2315;decide⟩
theorem v4(G:Pg hs fs d)(hc:∀f∈fs,(iR f.2).length<=Sz){f0:Fun}{mE:List Fun}(e0:fs=f0::mE){ks:VX}(u:Us hs (f0.1.nm,ks)):
  ∃X c,Wk hs fs d (f0.1.nm,ks) X c/\ ∀m,cF P (m+2*d+63) false 12 [.fz<|dW fs,.fz<|.dict<|bg hs,.fz<|.tuple ks]=some (.ok<|.fz<|.tuple [.tuple<|cO fs c 0 c X,.list<|yu 0 c],[]):=by
 subst e0;refine er (G.ends (n:=Wz) (by decide) (c:=[(f0.1.nm,ks)]) (pH u).nd (pH u).us) λX c hg=>?_;have o0:r9 hs d [] [(f0.1.nm,ks)]:=⟨pH u,Y7 _,λaa h=>by cases h⟩
 have w0:=pZ G 0 .no .no .no Wz [] [(f0.1.nm,ks)] X c hg o0;refine⟨X,c,⟨hg,w0.1,w0.2.1,w0.2.2.1⟩,λm=>?_⟩;have w:=(pZ G m (.fz<|dW (f0::mE)) (.fz<|.dict<|bg hs) (.fz<|.tuple ks) Wz [] [(f0.1.nm,ks)] X c hg o0).2.2.2;have kp:=As G hc<|m+d+61;have fe:m+d+61+d+1=m+2*d+62:=by exact(Zk (L0 [m,d] (.p 1<|.a (.p 61<|.a .x .y) .y) (.p 62<|.a .x<|.m 2 .y) rfl)<|L0 [m,d] (.p 62<|.a .x<|.m 2 .y) (.p 1<|.a (.p 61<|.a .x .y) .y) rfl)
 rw[fe]at kp;have ne:=u8 (m+2*d+61) (hs:=hs) (fdOf (f0::mE)) (bg hs) (c:=[]) (x:=(f0.1.nm,ks)) ⟨nodup_nil,(λaa h=>by cases h),by decide⟩ u;rw[pO<|Zp,Zq]at ne;have tl:=C1 (m+2*d+62) (.fz<|dW (f0::mE)) (.fz<|.dict<|bg hs) (.fz<|.tuple ks) (.KK<|.list<|cO (f0::mE) c 0 c X) (.KK<|.dict<|fdOf (f0::mE)) (.fz<|.dict<|bg hs) (.fz<|.list<|c.map ay) (.tab<|eR 0 c) c 0 [] .no .no rfl (by rw[Y8];exact w0.1.ck.le);rw[Zq]at tl;rw[(rfl:cO (f0::mE) [(f0.1.nm,ks)] 0 [(f0.1.nm,ks)] []=[])]at w;generalize cO (f0::mE) c 0 c X=E at *;generalize fdOf (f0::mE)=fd at *;generalize bg hs=sd at *;generalize yu 0 c=T0 at *;generalize lP (dj [(f0.1.nm,ks)] (f0.1.nm,ks))=W0 at *;generalize m+2*d=IO at *;exact aG [.c 0 kp,.c 2<|(ED (m+2*d+61) G<|bg hs),.c 3 ne,.lp 0 w,.lp 1 tl] rfl
theorem Na(N:Nat)(p s k A B:D)(h:cF P (N+1) false 12 [.fz p,.fz s,.fz k]=some (.ok<|.fz<|.tuple [A,B],[])):cF P (N+2) false 13 [.fz p,.fz s,.fz k]=eV A:=by exact aG [.c 0 h] rfl
theorem Oy(N:Nat)(p s k A B:D)(h:cF P (N+1) false 12 [.fz p,.fz s,.fz k]=some (.ok<|.fz<|.tuple [A,B],[])):cF P (N+2) false 14 [.fz p,.fz s,.fz k]=eV B:=by exact aG [.c 0 h] rfl
noncomputable def oth:List R->R
 |[]=>.val<|.int 0
 |r::rs=>cz r.opn r<|oth rs
noncomputable def jc:List R->List R
 |[]=>[]
 |r::rs=>cz r.opn (r::jc rs)<|jc rs
theorem y6(N:Nat)(a0 a1:Slot):∀(os:List R)(s2:Slot),bB ⟨P.glob,cF P N,[],false⟩ [a0,a1,s2] (ae 2) (.one 2) [.cmp .ne (.idx (ae 2) dK) iO] (os.map aD)=some (.ok<|(jc os).map aD,[a0,a1,.no]):=by intro os;induction os with
 |nil=>intro s2;refine O Zy ?_;rw[aL];rfl
 |cons r os ih=>
  intro s2;have t2:=gj r;refine O Zz ?_;show _=some (Except.ok<|(cz r.opn (r::jc os)<|jc os).map aD,_)
  cases h:r.opn with
  |true=>rw[h]at t2;dsimp only[cz];exact O Zz<|jS [.d 0<|(kj r),.b 0 t2,.cp 1<|(ih<|.fz<|aD r)] rfl
  |false=>rw[h]at t2;exact jS [.d 0<|(kj r),.b 0 t2,.cp 1<|(ih<|.fz<|aD r)] rfl
theorem y7:∀os:List R, ∃l,(jc os).map aD++[aD<|.val<|.int 0]=aD (oth os)::l:=by intro os;induction os with
 |nil=>exact⟨[],rfl⟩
 |cons r os ih=>
  show ∃l,(cz r.opn (r::jc os)<|jc os).map aD++_=aD (cz r.opn r<|oth os)::l
  cases r.opn with
  |true=>exact⟨_,rfl⟩
  |false=>exact ih
theorem y8:∀os:List R,(jc os).length<=os.length:=by intro os;induction os with
 |nil=>exact Zh _
 |cons r os ih=>
  show(cz r.opn (r::jc os)<|jc os).length<=os.length+1
  cases r.opn with
  |true=>exact succ_le_succ ih
  |false=>exact Nat.le_succ_of_le ih
theorem lL(N:Nat)(hl:os.length<=1000):cF P (N+1) false 38 [.fz<|.list<|os.map aD]=eV (aD<|oth os):=by
 have ad:op2 .add (.list<|(jc os).map aD) (.list [aD<|.val<|.int 0])=some (.KK<|.list<|(jc os).map aD++[aD<|.val<|.int 0]):=by rw[lN,YX];rw[ZG];have:=y8 os;show(jc os).length+1<=16777216;exact(Ln [(jc os).length,os.length] (.w (.p 1 .x)<|.c 16777216) [Gl .y<|.c 1000,Gl .x .y] rfl hl this)
 refine aB (y7 os) λl e=>?_;rw[e]at ad;have ix:cW (.list (aD (oth os)::l)) (.int 0)=some (aD<|oth os):=rfl;generalize aD (oth os)=E at *;exact aG [.cp 1<|(y6 N (.fz<|.list<|os.map aD) .no os .no),.v 0 ad] rfl
theorem uY:∀os:List R,(oth os).opn=os.any R.opn:=by intro os;induction os with
 |nil=>rfl
 |cons r os ih=>
  show(cz r.opn r<|oth os).opn=(r.opn||os.any R.opn)
  cases h:r.opn with
  |true=>exact h
  |false=>exact ih
theorem DR:∀(os:List R)(r:R),oth (os++[r])=cz (os.any R.opn) (oth os) (cz r.opn r<|.val<|.int 0):=by intro os r;induction os with
 |nil=>rfl
 |cons x os ih=>
  show cz x.opn x (oth<|os++[r])=cz (x.opn||os.any R.opn) (cz x.opn x<|oth os) _
  refine O ih ?_;cases x.opn with
  |true=>rfl
  |false=>rfl
theorem Nj(hc:∀x∈c,KC x):∀{n:Nat}{r:R},Rk c n r->b9 (aD r)=true:=by intro n;induction n with
 |zero=>exact λh=>h.elim
 |succ n ih=>
  intro r h;have l:∀{ps:List R},(∀p∈ps,Rk c n p)->eX (eF ps)=true:=fun {ps} h=>by rw[iG,nF];intro x hx;obtain⟨p,hp,rfl⟩:=mem_map.mp hx;exact ih<|h p hp
  cases r with
  |val d=>show(true&&(b9 d&&true))=true;refine O (Vg.key h) ?_;rfl
  |nam d=>rfl
  |ref d=>rfl
  |iff a b e=>show(true&&(b9 (aD a)&&(b9 (aD b)&&(b9 (aD e)&&true))))=true;refine O (ih h.1)<|O (ih h.2.1)<|O (ih h.2.2) ?_;rfl
  |doo op ps=>show(true&&(true&&(eX (eF ps)&&true)))=true;refine O (l h.2) ?_;rfl
  |call f ks ps=>show(true&&(b9 (ay (f,ks))&&(eX (eF ps)&&true)))=true;refine O (l h.2.2)<|O ((hc _ h.1).key) ?_;rfl
theorem oR(hc:∀x∈c,KC x) :∀{os:List R},(∀x∈os,Rk c n x)->b9 (aD<|oth os)=true:=by intro os;induction os with
 |nil=>intro _;rfl
 |cons r os ih=>
  intro h;show b9 (aD<|cz r.opn r<|oth os)=true
  cases r.opn with
  |true=>exact Nj hc<|h r Zt
  |false=>exact ih<|eA h
noncomputable abbrev cS(c:C):Slot:=.KK<|.list<|c.map ay
abbrev kT(N:Nat)(hs:List Hd)(sd LE:VY)(t:T)(c:C):Prop:=cF P N false 40 [.fz<|bT t,.fz<|.dict LE,.fz<|.dict sd,cS c]=some (.ok<|.fz<|aD (lf hs LE t c).1,[cS (lf hs LE t c).2])
theorem DI{x:R}:x.isRef=true->x.opn=true:=by cases x<;>first|exact λaa=>rfl|exact id
section
variable {hs:List Hd}{fs:List Fun}{d r N:Nat}{sd LE:VY}
noncomputable abbrev PY(sd LE:VY)(a0 a4:Slot):bF bN->Lp->Prop:=
 Lr (λr c z=>(.ok<|.ret<|.fz<|aD r,a0 :: .fz (.dict LE):: .fz (.dict sd)::cS c::z)) λaa os ai c=>(.ok .next,[a0,.fz<|.dict LE,.fz<|.dict sd,cS c,a4,.KK<|.list<|os.map aD,.no,.no,.no,.no])
abbrev Go(N:Nat)(sd LE:VY)(t x:D)(c c1:C):Prop:=cF P N false 40 [.fz t,.fz<|.dict LE,.fz<|.dict sd,cS c]=some (.ok<|.fz x,[cS c1])
noncomputable abbrev LV(N:Nat)(sd LE:VY)(a0 a4:Slot)(ac:VX)(c:C)(os:VX)(s6:Slot):bF bN:=
 cm ⟨P.glob,cF P<|N+1,[3],false⟩ [a0,.fz<|.dict LE,.fz<|.dict sd,cS c,a4,.KK<|.list os,s6,.no,.no,.no] (.one 6) Nf [6] ac
section
variable {a0 a4 s6:Slot}{c c1:C}{os ac:VX}{t x E:D}{g:Str}{ou:List Slot}{R:VW bN×Mv.Fm}
 (h1:Go (N+1) sd LE t x c c1) (hz:decide (os.length<Sz)=true) (oe:cF P (N+1) false 38 [.fz<|.list<|os++[x]]=some (.ok<|.fz E,ou)) (ke:b9 E=true) (u0:cW E (.int 0)=some (.str g))
include h1 hz oe ke u0
theorem QF(u1:aI .eq (.str g) (.str be)=some true):
  LV N sd LE a0 a4 (t::ac) c os s6=some (.ok<|.ret<|.fz E,[a0,.fz<|.dict LE,.fz<|.dict sd,cS c1,a4,.KK<|.list<|os++[x],.fz t,.no,.no,.no]):=by
 (exact eM [.c 0 h1,.t 0 hz,.c 0 oe,.t 0 ke,.d 0 u0,.b 0 u1,.c 1 oe,.t 0 ke] rfl)
theorem Nd(u1:aI .eq (.str g) (.str be)=some false)(i:LV N sd LE a0 a4 ac c1 (os++[x]) (.fz t)=some R):LV N sd LE a0 a4 (t::ac) c os s6=some R:=by
 (exact eM [.c 0 h1,.t 0 hz,.c 0 oe,.t 0 ke,.d 0 u0,.b 0 u1,.lp 1 i] rfl)
end
theorem Eh{x:R}{a0 s6:Slot}{t:D}(h1:Go (N+1) sd LE t (aD x) c c1)(ho:(os++[x]).length<=1000)(ke:b9 (aD<|oth<|os++[x])=true)
  (hf:os.any R.opn=true->(oth os).isRef=false)
  (H2:(oth<|os++[x]).isRef=false->PY sd LE a0 a4 (LV N sd LE a0 a4 ac c1 ((os++[x]).map aD)<|.fz t) L2):
  PY sd LE a0 a4 (LV N sd LE a0 a4 (t::ac) c (os.map aD) s6) (cz (x.isRef && !os.any R.opn) (.ret x c1) L2):=by
 have oe:=lL N ho;have u0:=kj<|oth<|os++[x];have u1:=iq<|oth<|os++[x];have hz:decide ((os.map aD).length<Sz)=true:=Y0 (by rw[ZG];rw[ZI]at ho;exact Zd (Nat.lt_succ_of_le<|le_of_succ_le ho) (by decide));rw[ZB]at oe H2;have E:=DR os x;cases q:os.any R.opn with
 |true=>rw[q]at E;have E:oth (os++[x])=oth os:=E;have f:=Y2 R.isRef E▸hf q;rw[Bool.not_true,Bool.and_false];exact(H2 f).st λR i=>Nd h1 hz oe ke u0 (f▸u1) i
 |false=>rw[q]at E;cases p:x.isRef with
  |true=>rw[DI p]at E;have E:oth (os++[x])=x:=E;rw[E]at oe ke u0 u1;exact⟨_,QF h1 hz oe ke u0<|p▸u1⟩
  |false=>
   have f:(oth<|os++[x]).isRef=false:=by rw[E];cases x.opn with
    |true=>exact p
    |false=>rfl
   exact(H2 f).st λR i=>Nd h1 hz oe ke u0 (f▸u1) i
theorem Ee(G:Pg hs fs d){a0:Slot}:∀(ts:List T)(VM:List R)(c:C)(s6:Slot),(∀t∈ts, ∀c,CK hs c->kT (N+1) hs sd LE t c/\Gr (Us hs) r c (lf hs LE t c))->CK hs c->(∀x∈VM,Rk c r x)->VM.length+ts.length<=1000->(VM.any R.opn=true->(oth VM).isRef=false)->
  PY sd LE a0 a4 (LV N sd LE a0 a4 (aZ ts) c (VM.map aD) s6) (bS [] VM (VM.any R.opn) ((jl hs LE ts).map λf=>(f,false)) c):=by
 intro ts;induction ts with
 |nil=>intro VM c s6 _ _ _ _ _;exact bb ..
 |cons t ts ih=>
  intro VM c s6 H k ha hl hf;have hg:=H t Zt c k;have k1:=hg.2.gw.ck G k;have EU:∀y∈VM++[(lf hs LE t c).1],Rk (lf hs LE t c).2 r y:=fK (λy hy=>(ha y hy).mono hg.2.gw.pre<|Zh _) hg.2.rk;have hl:=ZH▸hl;have la:(VM++[(lf hs LE t c).1]).length+ts.length<=1000:=by exact O ZI<|O ZD<|L1 [VM.length,ts.length] (.a (.p 1 .x) .y) (.c 1000) (.a .x<|.p 1 .y) (.c 1000) rfl hl
  exact Eh hg.1 (Zg (Zl _ _) la) (oR (λy hy=>(k1.us y hy).kc) EU) hf λe=>pN▸ih _ _ _ (eA H) k1 EU la λaa=>e
end
noncomputable def lI:Nat->Nat->VX
 |_,0=>[]
 |i,n+1=>.int (0+(i:Nat))::lI (i+1) n
theorem yV:∀(n i:Nat),(List.range' i n).map (λ(k:Nat)=>int<|0+k)=lI i n:=by intro n;induction n with
 |zero=>intro i;rfl
 |succ n ih=>intro i;refine O List.range'_succ ?_;rw[Zz,ih];rfl
theorem Aw(h:n<=1000):b4 .range [.int (n:Nat)]=some (lI 0 n):=by rw[bD,cJ n h,List.range_eq_range',yV]
theorem FE{wn:List Bool}{rest:List (T×Bool)}(h:(ps.zip wn).drop i=(t,b)::rest):cW (.tuple<|aZ ps) (.int<|0+(i:Nat))=some (bT t)/\cW (.tuple<|wn.map .bool) (.int<|0+(i:Nat))=some (.bool b)/\(ps.zip wn).drop (i+1)=rest:=by
 have e:(ps.zip wn)[i]?=some (t,b):=by refine O (head?_drop).symm<|O h ?_;rfl
 rw[List.getElem?_zip_eq_some]at e;have ix:∀(l:VX)(d:D),l[i]?=some d->cW (.tuple l) (.int<|0+(i:Nat))=some d:=λl d h=>by
  show bf l (0+(i:Int))=_
  unfold bf;rw[ZR,YX<|ZV _,ZU];exact h
 refine⟨ix _ _ ?_,ix _ _ ?_,?_⟩
 .rw[ic,ZJ];refine O e.1 ?_;rfl
 .refine O ZJ (O e.2 ?_);rfl
 .refine O tail_drop.symm (O h ?_);rfl
section
variable {hs:List Hd}{fs:List Fun}{d r N:Nat}{sd LE:VY}
noncomputable abbrev cf(f:Str)(p:VX):D:=.tuple [.str cV,.str f,.tuple p]
noncomputable abbrev Pp(sd LE:VY)(a0:D):bF bN->Lp->Prop:=
 Lr (λr c z=>(.ok<|.ret<|.fz<|aD r,.fz a0 :: .fz (.dict LE):: .fz (.dict sd)::cS c::z)) λks os aa c=>(.ok .next,[.fz a0,.fz<|.dict LE,.fz<|.dict sd,cS c,.KK<|.list ks,.KK<|.list<|os.map aD,.no,.no,.no])
noncomputable abbrev CB(N:Nat)(sd LE:VY)(a0:D)(ac:VX)(c:C)(ks os:VX)(s6 s7 s8:Slot):bF bN:=
 cm ⟨P.glob,cF P<|N+1,[3],false⟩ [.fz a0,.fz<|.dict LE,.fz<|.dict sd,cS c,.KK<|.list ks,.KK<|.list os,s6,s7,s8] (.one 6) Nh [6,7,8] ac
section
variable {s6 s7 s8:Slot}{c c1:C}{ks os ac p q l:VX}{b b1 o:Bool}{t x E:D}{w g f:Str}{j:Int}{ou:List Slot}{R:VW bN×Mv.Fm}
 (i1:cW (.tuple p) (.int j)=some t) (h1:Go (N+1) sd LE t x c c1) (hd:aR sd f=some (.tuple q))
include i1 h1 hd
theorem QG{u:D}(i2:cW (.tuple q) (.int j)=some (.bool true))(t0:cW x (.int 0)=some (.str w))(t1:aI .eq (.str w) (.str be)=some false)(t3:cW x (.int 1)=some u)(hz:decide (ks.length<Sz)=true)
  (i:CB N sd LE (cf f p) ac c1 (ks++[u]) os (.fz<|.int j) (.fz x) (.fz<|.bool true)=some R):CB N sd LE (cf f p) (.int j::ac) c ks os s6 s7 s8=some R:=by
 (exact eM [.d 1 i1,.c 0 h1,.d 1 hd,.d 0 i2,.d 1 t0,.b 0 t1,.d 2 t0,.b 0 t1,.d 3 t3,.t 0 hz,.lp 0 i] rfl)
variable (t0:cW x (.int 0)=some (.str w))(oe:cF P (N+1) false 38 [.fz<|.list os]=some (.ok<|.fz E,ou))(ke:b9 E=true)(u0:cW E (.int 0)=some (.str g))
include t0 oe ke u0
theorem QI(i2:cW (.tuple q) (.int j)=some (.bool true))(t1:aI .eq (.str w) (.str be)=some true)(u1:aI .ne (.str g) (.str dc)=some true)(ad:op2 .add (.list os) (.list [x])=some (.KK<|.list l)):
  CB N sd LE (cf f p) (.int j::ac) c ks os s6 s7 s8=some (.ok<|.ret<|.fz<|.tuple [.str jz,.str aX,.tuple l],[.fz<|cf f p,.fz<|.dict LE,.fz<|.dict sd,cS c1,.KK<|.list ks,.KK<|.list os,.fz<|.int j,.fz x,.fz<|.bool true]):=by
 (exact eM [.d 1 i1,.c 0 h1,.d 1 hd,.d 0 i2,.d 1 t0,.b 0 t1,.c 1 oe,.t 0 ke,.d 0 u0,.b 0 u1,.v 1 ad] rfl)
theorem Ng(i2:cW (.tuple q) (.int j)=some (.bool b))(t1:aI .eq (.str w) (.str be)=some true)(u1:aI .ne (.str g) (.str dc)=some false)(u2:aI .eq (.str g) (.str dc)=some (!false)):
  CB N sd LE (cf f p) (.int j::ac) c ks os s6 s7 s8=some (.ok<|.ret<|.fz x,[.fz<|cf f p,.fz<|.dict LE,.fz<|.dict sd,cS c1,.KK<|.list ks,.KK<|.list os,.fz<|.int j,.fz x,.fz<|.bool b]):=by
 cases b with
 |true=>(exact eM [.d 1 i1,.c 0 h1,.d 1 hd,.d 0 i2,.d 1 t0,.b 0 t1,.c 1 oe,.t 0 ke,.d 0 u0,.b 0 u1,.d 1 t0,.b 0 t1,.c 1 oe,.t 0 ke,.d 0 u0,.b 0 u2] rfl)
 |false=>(exact eM [.d 1 i1,.c 0 h1,.d 1 hd,.d 0 i2,.d 2 t0,.b 0 t1,.c 1 oe,.t 0 ke,.d 0 u0,.b 0 u2] rfl)
theorem QH(i2:cW (.tuple q) (.int j)=some (.bool false))(t1:aI .eq (.str w) (.str be)=some b1)(u2:b1=true->aI .eq (.str g) (.str dc)=some false)(hz:decide (os.length<Sz)=true)
  (i:CB N sd LE (cf f p) ac c1 ks (os++[x]) (.fz<|.int j) (.fz x) (.fz<|.bool false)=some R):CB N sd LE (cf f p) (.int j::ac) c ks os s6 s7 s8=some R:=by
 cases b1 with
 |true=>
  have u2:=u2 rfl
  (exact eM [.d 1 i1,.c 0 h1,.d 1 hd,.d 0 i2,.d 2 t0,.b 0 t1,.c 1 oe,.t 0 ke,.d 0 u0,.b 0 u2,.t 2 hz,.lp 0 i] rfl)
 |false=>(exact eM [.d 1 i1,.c 0 h1,.d 1 hd,.d 0 i2,.d 2 t0,.b 0 t1,.t 3 hz,.lp 0 i] rfl)
end
theorem Em{x:R}{s6 s7 s8:Slot}{ks p q:VX}{t:D}{f:Str}{j:Int}{L1:D->Lp}(i1:cW (.tuple p) (.int j)=some t)(h1:Go (N+1) sd LE t (aD x) c c1)(hd:aR sd f=some (.tuple q))(i2:cW (.tuple q) (.int j)=some (.bool b))(tv:b=true->TV x)
  (hk:ks.length<Sz) (ho:os.length<=1000) (ke:b9 (aD<|oth os)=true)
  (H1:∀v,Pp sd LE (cf f p) (CB N sd LE (cf f p) ac c1 (ks++[v]) (os.map aD) (.fz<|.int j) (.fz<|aD x)<|.fz<|.bool true)<|L1 v)
  (H2:Pp sd LE (cf f p) (CB N sd LE (cf f p) ac c1 ks ((os++[x]).map aD) (.fz<|.int j) (.fz<|aD x)<|.fz<|.bool false) L2):
  Pp sd LE (cf f p) (CB N sd LE (cf f p) (.int j::ac) c ks (os.map aD) s6 s7 s8) (cz (x.isRef && !os.any R.opn) (.ret x c1)<|cz b (cz x.isRef (.ret (.doo aX<|os++[x]) c1)<|L1 x.v) L2):=by
 have t0:=kj x;have t1:=iq x;have oe:=lL N ho;have u0:=kj<|oth os;have u1:=gj<|oth os;have u2:=yB<|oth os;have z2:(os.map aD).length<Sz:=by rw[ZG];exact Ze ho (by decide)
 rw[uY]at u1 u2;rw[ZB]at H2;cases b with
 |true=>cases tv rfl with
  |@ref w=>cases q:os.any R.opn with
   |true=>
    have A:op2 .add (.list<|os.map aD) (.list [aD<|.ref w])=some (.KK<|.list<|eF<|os++[.ref w]):=by rw[iG,ZB];exact(lN _ _).trans<|YX z2
    exact⟨_,QI i1 h1 hd t0 oe ke u0 i2 t1 (q▸u1) A⟩
   |false=>exact⟨_,Ng i1 h1 hd t0 oe ke u0 i2 t1 (q▸u1)<|q▸u2⟩
  |@val v hv=>exact(H1 v).st λR i=>QG i1 h1 hd i2 t0 t1 rfl (Y0 hk) i
 |false=>cases q:x.isRef && !os.any R.opn with
  |true=>rw[Z8,Z6]at q;exact⟨_,Ng i1 h1 hd t0 oe ke u0 i2 (q.1▸t1) (q.2▸u1)<|q.2▸u2⟩
  |false=>exact H2.st λR i=>QH i1 h1 hd t0 oe ke u0 i2 t1 (λe=>by rw[e,Bool.true_and]at q;exact q▸u2) (Y0 z2) i
theorem Ek(G:Pg hs fs d)(f:Str)(ps:List T)(wn:List Bool)(hd:aR sd f=some (.tuple<|wn.map .bool)):∀(rest:List (T×Bool))(i:Nat)(ks:VX)(os:List R)(c:C)(s6 s7 s8:Slot),(ps.zip wn).drop i=rest->
  (∀p∈rest, ∀c,CK hs c->kT (N+1) hs sd LE p.1 c/\Gr (Us hs) r c (lf hs LE p.1 c))->(∀p∈rest,p.2=true-> ∀c,TV (lf hs LE p.1 c).1)->CK hs c->(∀x∈os,Rk c r x)->ks.length+os.length+rest.length<=1000->
  Pp sd LE (cf f<|aZ ps) (CB N sd LE (cf f<|aZ ps) (lI i rest.length) c ks (os.map aD) s6 s7 s8) (bS ks os (os.any R.opn) (rest.map λp=>(lf hs LE p.1,p.2)) c):=by
 intro rest;induction rest with
 |nil=>intro i ks os c s6 s7 s8 _ _ _ _ _ _;exact bb ..
 |cons p rest ih=>
  intro i ks os c s6 s7 s8 hi H HT k ha hl;have Q:=FE hi;have hg:=H _ Zt c k;have g:=hg.2.gw;have k1:=g.ck G k;have EU:∀y∈os,Rk (lf hs LE p.1 c).2 r y:=λy hy=>(ha y hy).mono g.pre<|Zh _;have hl:=ZH▸hl;have ih:=λks os s6 s7 s8=>ih (i+1) ks os (lf hs LE p.1 c).2 s6 s7 s8 Q.2.2 (eA H) (eA HT) k1;have i2:=ih ks (os++[(lf hs LE p.1 c).1]) (.fz<|.int<|0+(i:Nat)) (.fz<|aD (lf hs LE p.1 c).1) (.fz<|.bool false) (fK EU hg.2.rk) (by rw[ZI,ZD];exact(L1 [ks.length,os.length,rest.length] (.a (.a .x<|.p 1 .y) .z) (.c 1000) (.a (.a .x .y)<|.p 1 .z) (.c 1000) rfl hl));rw[pN]at i2;exact Em (L1:=λv=>bS (ks++[v]) os (os.any R.opn) (rest.map λp=>(lf hs LE p.1,p.2)) (lf hs LE p.1 c).2) Q.1 hg.1 hd Q.2.1 (λe=>HT _ Zt e c)
   (L1 [ks.length,os.length,rest.length] (.p 1 .x) (.c 16777216) (.a (.a .x .y)<|.p 1 .z) (.c 1000) rfl hl) (L1 [os.length,ks.length,rest.length] .x (.c 1000) (.a (.a .y .x)<|.p 1 .z) (.c 1000) rfl hl)
   (oR (λy hy=>(k1.us y hy).kc) EU)
   (λv=>ih _ _ _ _ _ EU (by refine O ZI<|O ZD ?_;exact(L1 [ks.length,os.length,rest.length] (.a (.a (.p 1 .x) .y) .z) (.c 1000) (.a (.a .x .y)<|.p 1 .z) (.c 1000) rfl hl))) i2
end
section
variable {hs:List Hd}{fs:List Fun}{d r N:Nat}{LE:VY}{kn:VT}
theorem Ag(G:Pg hs fs d)(hm:h∈hs)(hh:∀x∈kn, ∃v,aR LE x=some v/\v∈Sl)(hl:ps.length=h.wn.length)(rc:∀p∈ps.zip h.wn,p.2=true->Tm kn p.1)
  (H:∀t∈ps, ∀c,CK hs c->kT (N+1) hs (bg hs) LE t c/\Gr (Us hs) r c (lf hs LE t c)) (H':∀t∈ps, ∀c,Gr (Us hs) r c<|lf hs LE t c) {c:C} (k:CK hs c):
  cF P (N+2) false 39 [.fz<|bT<|.call h.nm ps,.fz<|.dict LE,.fz<|.dict<|bg hs,cS c]=some (.ok<|.fz<|aD (lf hs LE (.call h.nm ps) c).1,[cS (lf hs LE (.call h.nm ps) c).2]):=by
 have h6:h.wn.length<=6:=by exact O (G.wn h hm)<|G.le h hm
 have e:((ps.zip h.wn).map λp=>(lf hs LE p.1,p.2))=(jl hs LE ps).zip h.wn:=by rw[gy];refine O zip_map_left ?_;rfl
 have zl:(ps.zip h.wn).length=ps.length:=by refine O length_zip ?_;rw[hl,min_self]
 have lp:=Ek G (sd:=bg hs) h.nm ps h.wn (gX G.nd hm) (ps.zip h.wn) 0 [] [] c .no .no .no rfl (λp hp=>H p.1 (of_mem_zip (a:=p.1) (b:=p.2) hp).1) (λp hp e c=>(yx hh (rc p hp e) c).2) k (λaa h=>by cases h)
  (by refine O zl<|O hl ?_;show 0+0+h.wn.length<=1000;exact(L1 [h.wn.length] (.a (.p 0<|.c 0) .x) (.c 1000) .x (.c 6) rfl h6))
 have lk:=pJ hh H' hl rc (by refine O hl ?_;exact(L1 [h.wn.length] .x (.c 8) .x (.c 6) rfl h6)) c;have it:=Aw (n:=ps.length) (by refine O hl ?_;exact(L1 [h.wn.length] .x (.c 1000) .x (.c 6) rfl h6));have bl:jm .len [.tuple<|aZ ps]=some (.fz<|.int (ps.length:Nat)):=by rw[jN];show some (Rv.fz<|.int ((aZ ps).length:Nat))=_;rw[fi]
 refine O (show lf hs LE (.call h.nm ps) c=vH h.nm (bS [] [] false ((jl hs LE ps).zip<|qs hs h.nm) c) from rfl)<|O (uQ G.nd hm) ?_;rw[e,zl]at lp;have lp:Pp _ _ _ _ (bS [] [] false ((jl hs LE ps).zip h.wn) c):=lp;refine O (show bT (.call h.nm ps) = .tuple [.str cV,.str h.nm,.tuple<|aZ ps] from rfl) ?_;generalize bS [] [] false ((jl hs LE ps).zip h.wn) c=l at lp lk ⊢;generalize ((ps.length:Nat):Int)=m at it bl;cases lk with
 |ret g=>refine aB lp λz lp=>?_;exact aG [.v 1 bl,.l 0 it,.lp 0 lp] rfl
 |@next ks os o c' g h1 h2 h3 h4 h5=>
  have u:Us hs (h.nm,ks):=⟨⟨h,hm,rfl,h2⟩,h1⟩
  have k':=g.ck G k;have e:aD (.call h.nm ks os) = .tuple [.str cV,ay (h.nm,ks),.tuple<|os.map aD]:=by rw[<- iG];rfl
  show _=some (Except.ok<|Rv.fz<|aD<|.call h.nm ks os,[cS<|gU c' (h.nm,ks)])
  refine O e ?_;by_cases q:(h.nm,ks)∈c'
  .refine O (Cc q) ?_;have ni:aI .notin (ay (h.nm,ks)) (.list<|c'.map ay)=some false:=by
    show(if noDict (ay (h.nm,ks)) then ew (ay (h.nm,ks)) (c'.map ay) else none).map (!·)=_
    refine O (YX<|hO _ u.kc.key)<|O ((vM u.kc (c:=c') λy hy=>(k'.us y hy).kc).1 q) ?_;rfl
   exact aG [.v 1 bl,.l 0 it,.lp 0 lp,.b 2 ni] rfl
  .refine O (pO q) ?_;have ni:aI .notin (ay (h.nm,ks)) (.list<|c'.map ay)=some true:=by
    show(if noDict (ay (h.nm,ks)) then ew (ay (h.nm,ks)) (c'.map ay) else none).map (!·)=_
    refine O (YX<|hO _ u.kc.key)<|O ((vM u.kc (c:=c') λy hy=>(k'.us y hy).kc).2.1 q) ?_;rfl
   have hz:decide ((c'.map ay).length<Sz)=true:=Y0 (by rw[ZG];have:=k'.le;show c'.length<16777216;exact(L1 [length c'] (.p 1 .x) (.c 16777216) .x (.c 2315) rfl this));exact O (show cS (c'++[(h.nm,ks)]) = .KK (.list<|(c'++[(h.nm,ks)]).map ay) from rfl)<|O ZB<|aG [.v 1 bl,.l 0 it,.lp 0 lp,.b 2 ni,.t 3 hz] rfl
theorem GK(N:Nat)(a0 a1 a2 a3 a4 a5 a6 a7 a8:Slot):∀(os:List R)(s:Slot),(∀x∈os,x.opn=false)->
  bB ⟨P.glob,cF P N,[3],false⟩ [a0,a1,a2,a3,a4,a5,a6,a7,a8,s] (.idx (ae 9) cY) (.one 9) [] (os.map aD)=some (.ok<|os.map R.v,[a0,a1,a2,a3,a4,a5,a6,a7,a8,.no]):=by
 intro os;induction os with
 |nil=>intro s _;refine O Zy ?_;rw[aL];rfl
 |cons x os ih=>intro s h;have hx:=h x Zt;have q:=λs=>ih s<|eA h;cases x with
  |val d=>exact O Zz<|jS [.cp 1<|(q<|.fz<|aD<|.val d)] rfl
  |_=>cases hx
theorem Bs(a b e:T):yD (bT<|.iff [a,b,e]) (.int 2) .none=some (.fz<|.tuple [bT b,bT e]):=by kernel_rfl
theorem Jx(G:Pg hs fs d)(ho:gQ op=true)(hl:bH op ps.length=true)(H:∀t∈ps, ∀c,CK hs c->kT (N+60) hs sd LE t c/\Gr (Us hs) r c (lf hs LE t c))(H':∀t∈ps, ∀c,Gr (Us hs) r c<|lf hs LE t c)(k:CK hs c):
  kT (N+61) hs sd LE (.doo op ps) c:=by
 have lp:=Ee G (a0:=.fz<|bT<|.doo op ps) (a4:=.no) (N:=N+59) (sd:=sd) ps [] c .no H k (λaa h=>by cases h) (by have:=gV hl;show 0+ps.length<=1000;exact(L1 [ps.length] (.a (.c 0) .x) (.c 1000) .x (.c 8) rfl this)) (λe=>by cases e);have lk:=BM H' (gV hl) c;show cF P (N+61) false 40 _=_
 refine O (show lf hs LE (.doo op ps) c=Ou op (bS [] [] false ((jl hs LE ps).map λf=>(f,false)) c) from rfl) ?_;have lp:PY _ _ _ _ _ (bS [] [] false ((jl hs LE ps).map λf=>(f,false)) c):=lp;rw[show bT (.doo op ps) = .tuple [.str jz,.str op,.tuple<|aZ ps] from rfl]at lp ⊢;generalize bS [] [] false ((jl hs LE ps).map λf=>(f,false)) c=l at lp lk ⊢;cases lk with
 |ret g=>refine aB lp λz lp=>?_;exact aG [.lp 14 lp] rfl
 |@next ks os o c' g h1 h2 h3 h4 h5=>
  have ol:os.length=ps.length:=by rw[h2,Y8]at h3;exact h3
  have oe:=lL (N+59) (os:=os) (by refine O ol ?_;have:=gV hl;exact(L1 [ps.length] .x (.c 1000) .x (.c 8) rfl this));have ke:=oR (λy hy=>((g.ck G k).us y hy).kc) h4;have u0:=kj<|oth os;have u1:=gj<|oth os;rw[uY,<- h5]at u1;generalize oth os=E at oe ke u0 u1;cases o with
  |true=>
   have e:aD (.doo op os) = .tuple [.str jz,.str op,.tuple<|os.map aD]:=by rw[<- iG];rfl
   show _=some (Except.ok<|Rv.fz<|aD<|.doo op os,[cS c'])
   exact O e<|aG [.lp 14 lp,.c 0 oe,.t 0 ke,.d 0 u0,.b 0 u1] rfl
  |false=>
   have ld:=Ad N (op:=op) (vs:=os.map R.v) ho (by rw[ZG];refine O ol ?_;exact hl) λv wX=>by obtain⟨p,hp,rfl⟩:=mem_map.mp wX;have a:=h4 p hp;have b:=(kg h5.symm) p hp;cases p with
    |val d=>cases r with
     |zero=>exact a.elim
     |succ n=>exact a
    |_=>cases b
   show _=some (Except.ok<|Rv.fz<|aD<|sA op os,[cS c'])
   unfold sA;cases q:dn op (os.map R.v) with
   |ok v=>rw[q]at ld;exact aG [.lp 14 lp,.c 0 oe,.t 0 ke,.d 0 u0,.b 0 u1,.cp 3<|(GK (N+60) (.fz<|.tuple [.str jz,.str op,.tuple<|aZ ps]) (.fz<|.dict LE) (.fz<|.dict sd) (cS c') .no (.fz<|.list<|os.map aD) .no .no .no os .no<|kg h5.symm),.c 0 ld] rfl
   |error w=>rw[q]at ld;exact aG [.lp 14 lp,.c 0 oe,.t 0 ke,.d 0 u0,.b 0 u1,.cp 3<|(GK (N+60) (.fz<|.tuple [.str jz,.str op,.tuple<|aZ ps]) (.fz<|.dict LE) (.fz<|.dict sd) (cS c') .no (.fz<|.list<|os.map aD) .no .no .no os .no<|kg h5.symm),.c 0 ld] rfl
theorem Jy(G:Pg hs fs d){b e:T}(H:∀t,t=a\/t=b\/t=e-> ∀c,CK hs c->kT (N+1) hs sd LE t c/\Gr (Us hs) r c (lf hs LE t c))(k:CK hs c):kT (N+2) hs sd LE (.iff [a,b,e]) c:=by
 have hb:=λc k=>H b (.inr<|.inl rfl) c k;have he:=λc k=>H e (.inr<|.inr rfl) c k;show cF P (N+2) false 40 _=_
 refine O (show lf hs LE (.iff [a,b,e]) c=PJ (lf hs LE b) (lf hs LE e) (lf hs LE a c) from rfl) ?_;obtain⟨h1,g⟩:=(H a (.inl rfl) c k)
 delta kT at h1;generalize lf hs LE a c=p at h1 g ⊢;obtain⟨x,c1⟩:=p;obtain⟨ye,gb⟩:=hb c1<|g.gw.ck G k;obtain⟨J2,ge⟩:=he c1<|g.gw.ck G k;have k2:=gb.gw.ck G<|g.gw.ck G k;obtain⟨CH,Rr⟩:=he _ k2;delta kT at ye J2 CH;have s2:=Bs a b e;rw[show bT (.iff [a,b,e]) = .tuple [.str iM,bT a,bT b,bT e] from rfl]at s2 ⊢;have d4:x.isRef=false->x.opn=true->cF P (N+2) false 40 [.fz<|.tuple [.str iM,bT a,bT b,bT e],.fz<|.dict LE,.fz<|.dict sd,cS c]=some (.ok<|.fz<|aD<|.iff x (lf hs LE b c1).1 (lf hs LE e (lf hs LE b c1).2).1,[cS (lf hs LE e (lf hs LE b c1).2).2]):=λq1 q2=>by have t1:=iq x;have t2:=gj x;rw[q1]at t1;rw[q2]at t2;refine O (show aD (.iff x (lf hs LE b c1).1 (lf hs LE e (lf hs LE b c1).2).1) = .tuple [.str iM,aD x,aD (lf hs LE b c1).1,aD (lf hs LE e (lf hs LE b c1).2).1] from rfl) ?_;generalize lf hs LE b c1=q at ye CH ⊢;have y:=q.1;have c2:=q.2;generalize lf hs LE e c2=q at CH ⊢;dsimp only at h1 ye CH ⊢;generalize aD x=Id at *;generalize aD y=dl at *;generalize aD q.1=Z at *;exact aG [.c 13 h1,.d 0<|(kj x),.b 0 t1,.d 1<|(kj x),.b 0 t2,.v 1 s2,.c 2 ye,.c 1 CH] rfl
 cases x with
 |val v=>
  have hv:Vg v:=by cases r with
   |zero=>exact g.rk.elim
   |succ r=>exact g.rk
  rcases hv.k with⟨i,rfl,_⟩|⟨l,rfl,_⟩
  .have ce:aI .eq (.int i) (.int 0)=some (i==0):=rfl;show _=some (Except.ok<|Rv.fz<|aD (cz (i==0) (lf hs LE e c1)<|lf hs LE b c1).1,[cS (cz (i==0) (lf hs LE e c1)<|lf hs LE b c1).2])
   generalize lf hs LE b c1=q at ye ⊢;generalize lf hs LE e c1=q' at J2 ⊢;obtain⟨y,c2⟩:=q;cases q:i==0 with
   |true=>rw[q]at ce;dsimp only[cz];exact aG [.c 13 h1,.b 10 ce,.c 3 J2] rfl
   |false=>rw[q]at ce;exact aG [.c 13 h1,.b 10 ce,.c 3 ye] rfl
  .exact aG [.c 13 h1] rfl
 |ref w=>exact aG [.c 13 h1] rfl
 |nam x=>exact d4 rfl rfl
 |iff x y z=>exact d4 rfl rfl
 |doo x y=>exact d4 rfl rfl
 |call x y z=>exact d4 rfl rfl
theorem wL(G:Pg hs fs d)(hh:∀x∈kn, ∃v,aR LE x=some v/\v∈Sl)(hv:∀x v,aR LE x=some v->Vg v):∀(r:Nat)(t:T),Ok hs kn r t-> ∀(n:Nat)(c:C),CK hs c->kT (n+2*r+60) hs (bg hs) LE t c:=by intro r;have gr:=Ab G.nd (λh hm=>by refine O (G.wn h hm) ?_;exact G.le h hm) hh hv;induction r with
 |zero=>exact λaa h=>h.elim
 |succ r ih=>
  intro t ht n c k;have ih1:∀t,Ok hs kn r t-> ∀c,CK hs c->kT (n+2*r+61) hs (bg hs) LE t c:=λt ht c k=>by have:=ih t ht (n+1) c k;rw[show n+1+2*r+60=n+2*r+61 by exact(Zk (L0 [n,r] (.p 60<|.a (.p 1 .x)<|.m 2 .y) (.p 61<|.a .x<|.m 2 .y) rfl)<|L0 [n,r] (.p 61<|.a .x<|.m 2 .y) (.p 60<|.a (.p 1 .x)<|.m 2 .y) rfl)]at this;exact this
  have ih0:∀t,Ok hs kn r t-> ∀c,CK hs c->kT (n+2*r+60) hs (bg hs) LE t c:=λt ht c k=>ih t ht n c k;show cF P (n+2*r+62) false 40 _=_
  generalize n+2*r=N at *;cases t with
  |val v=>show _=some (Except.ok<|Rv.fz<|aD<|.val v,[cS c]);exact aG [] rfl
  |ref x=>show _=some (Except.ok<|Rv.fz<|aD<|.ref x,[cS c]);exact aG [] rfl
  |nam x=>
   show _=some (Except.ok (Rv.fz (aD (match aR LE x with
   |some v=>R.val v
   |none=>R.nam x))),[cS c])
   have hi:EG (.str x) (.dict LE)=some (aR LE x).isSome:=rfl;have hx:cW (.dict LE) (.str x)=aR LE x:=rfl;generalize aR LE x=q at hi hx;cases q with
   |some v=>exact aG [.b 7 hi,.d 2 hx] rfl
   |none=>exact aG [.b 7 hi] rfl
  |iff ps=>
   refine kF (Jw ht.1) λa b e Q=>?_;subst Q;exact Jy (N:=N+60) G (λt q c k=>by
    have m:t∈ [a,b,e]:=by rcases q with rfl|rfl|rfl<;>simp
    exact⟨ih1 t (ht.2 t m) c k,gr r t (ht.2 t m) c⟩) k
  |doo op ps=>exact Jx (N:=N+1) G ht.1.1 ht.1.2 (λt m c k=>⟨ih1 t (ht.2 t m) c k,gr r t (ht.2 t m) c⟩) (λt m c=>gr r t (ht.2 t m) c) k
  |call f ps=>obtain⟨⟨h,hm,rfl,hl,rc⟩,hp⟩:=ht;exact aG [.c 9<|(Ag (N:=N+59) (LE:=LE) G hm hh hl rc (λt m c k=>⟨ih0 t (hp t m) c k,gr r t (hp t m) c⟩) (λt m c=>gr r t (hp t m) c) k)] rfl
end
class inductive Sm:D->Prop
 |int {i:Int}:Sm (.int i)
 |str {s:Str}:Sm (.str s)
 |tup {X:VX}:X.length<=1000->(∀d∈X,Sm d)->Sm (.tuple X)
theorem Dp(d:D)(h:b9 d=true):wt d<=1000->Sm d:=by refine gz (IO:=λd=>wt d<=1000->Sm d) (λaa ai=>.int) (λaa ai=>.str) (λM hx ih Th=>?_) d h;have hw:=Th;refine .tup (Zg (oP M)<|L1 [dZ M] .x (.c 1000) (.a (.c 1) .x) (.c 1000) rfl hw) λy hy=>ih y hy<|Zg ?_ (show dZ M<=1000 by exact(L1 [dZ M] .x (.c 1000) (.a (.c 1) .x) (.c 1000) rfl hw));clear ih hx hw Th h;induction M with
 |nil=>cases hy
 |cons x M IH=>
  rcases mem_cons.mp hy with rfl|hy
  .exact Zl _ _
  .exact Zg (IH hy) (Nat.le_add_left _ _)
theorem wi(N:Nat)(X:VX)(ih:∀d∈X,cF P N false 18 [.fz d,.fz d]=GI true):∀(rest:VX)(i:Nat)(s2:Slot),X.drop i=rest->
  cm ⟨P.glob,cF P N,[],false⟩ [.fz<|.tuple X,.fz<|.tuple X,s2] (.one 2) MC [2] (lI i rest.length)=some (.ok .next,[.fz<|.tuple X,.fz<|.tuple X,.no]):=by
 intro rest;induction rest with
 |nil=>intro i s2 _;exact bb ..
 |cons d rest IH=>
  intro i s2 h;have q:=IH (i+1) (.fz<|.int<|0+(i:Nat)) (by refine O tail_drop.symm<|O h ?_;rfl);have hd:X[i]?=some d:=by refine O (head?_drop).symm<|O h ?_;rfl
  have e:cW (.tuple X) (.int<|0+(i:Nat))=some d:=by
   show bf X (0+(i:Int))=_
   unfold bf;rw[ZR,YX<|ZV _,ZU];exact hd
  refine O ZH<|O (show lI i (rest.length+1) = .int (0+(i:Nat))::lI (i+1) rest.length from rfl) ?_;generalize (0:Int)+(i:Nat)=j at *;exact eM [.d 0 e,.d 0 e,.c 0<|(ih d<|Zs hd),.lp 2 q] rfl
theorem u5(k:Int):aI .ne (.int k) (.int k)=some false:=by rw[mn,pq];refine O (Y0 rfl) ?_;rfl
theorem DD{d:D}(h:Sm d):∀N,d.depth<N->cF P N false 18 [.fz d,.fz d]=GI true:=by induction h with
 |@int i=>intro N hN;cases N with
  |zero=>exact(not_lt_zero _ hN).elim
  |succ N=>
   have q:aI .eq (.int i) (.int i)=some true:=by rw[jL];exact O (Y0 rfl) rfl
   exact aG [.b 9 q] rfl
 |@str s=>intro N hN;cases N with
  |zero=>exact(not_lt_zero _ hN).elim
  |succ N=>exact aG [.b 6<|(MD (x:=s) rfl)] rfl
 |@tup X hl _ ih=>intro N hN;cases N with
  |zero=>exact(not_lt_zero _ hN).elim
  |succ N=>
   have lp:=wi N X (λd hd=>ih d hd N<|Ze ?_<|lt_of_succ_lt_succ hN) X 0 .no rfl
   .have hr:=Aw (n:=X.length) hl;have hn:=u5 X.length;have hk:jm .len [.tuple X]=some (.fz<|.int (X.length:Int)):=rfl;generalize ((X.length:Nat):Int)=k at hr hn hk;exact aG [.v 5 hk,.v 0 hk,.b 0 hn,.v 1 hk,.l 0 hr,.lp 0 lp] rfl
   .exact nP hd
theorem Mw:∀{n:Nat}{r:R},Rk c n r->Sm (encM c r)/\(encM c r).depth<=2*n+51:=by intro n;induction n with
 |zero=>exact λh=>h.elim
 |succ n ih=>
  intro r h;have l:∀{ps:List R},ps.length<=8->(∀p∈ps,Rk c n p)->Sm (.tuple<|b5 c ps)/\depthAll (b5 c ps)<=2*n+51:=fun {ps} hl h=>by
   rw[eQ];refine⟨.tup (by rw[ZG];exact(L1 [ps.length] .x (.c 1000) .x (.c 8) rfl hl)) λx hx=>?_,kb λx hx=>?_⟩
   .obtain⟨p,hp,rfl⟩:=mem_map.mp hx;exact(ih<|h p hp).1
   .obtain⟨p,hp,rfl⟩:=mem_map.mp hx;exact(ih<|h p hp).2
  have two:∀{a b:D},Sm a->Sm b->Sm (.tuple [a,b]):=λha hb=>.tup (by show 2<=1000;decide) λx hx=>by
   simp only[Zv,Zp,or_false]at hx;rcases hx with rfl|rfl
   .exact ha
   .exact hb
  have d4:∀{a b e:D},Sm a->Sm b->Sm e->Sm (.tuple [a,b,e]):=λha hb he=>.tup (by show 3<=1000;decide) λx hx=>by
   simp only[Zv,Zp,or_false]at hx;rcases hx with rfl|rfl|rfl
   .exact ha
   .exact hb
   .exact he
  cases r with
  |val d=>
   have h:=h;refine⟨two .str<|Dp d h.key<|Zg h.w (by decide),?_⟩;show max 0 (max d.depth 0)+1<=_
   have:=h.dp;refine O ((kZ d h.g).2) ?_;have:max 0 (max (dep d) 0)<=50:=max_le.mpr ⟨Y7 _,max_le.mpr ⟨this,Y7 _⟩⟩;exact(L1 [max (0:Nat)<|max (dep d) (0:Nat),n] (.p 1 .x) (.p 51<|.m 2<|.p 1 .y) .x (.c 50) rfl this)
  |nam d=>exact⟨two .str .str,by show 0+1<=_;exact(L0 [n] (.p 1<|.c 0) (.p 51<|.m 2<|.p 1 .x) rfl)⟩
  |ref d=>exact⟨two .str .str,by show 0+1<=_;exact(L0 [n] (.p 1<|.c 0) (.p 51<|.m 2<|.p 1 .x) rfl)⟩
  |iff a b e=>
   refine⟨.tup (by show 4<=1000;decide) λx hx=>?_,?_⟩
   .have hx:x∈ [str iM,encM c a,encM c b,encM c e]:=hx;simp only[Zv,Zp,or_false]at hx;rcases hx with rfl|rfl|rfl|rfl
    .exact .str
    .exact(ih h.1).1
    .exact(ih h.2.1).1
    .exact(ih h.2.2).1
   .have:max 0 (max (encM c a).depth<|max (encM c b).depth<|max (encM c e).depth 0)<=2*n+51:=max_le.mpr ⟨Y7 _,max_le.mpr ⟨(ih h.1).2,max_le.mpr ⟨(ih h.2.1).2,max_le.mpr ⟨(ih h.2.2).2,Y7 _⟩⟩⟩⟩
    exact(L1 [max (0:Nat)<|max (depth<|encM c a)<|max (depth<|encM c b)<|max (depth<|encM c e) (0:Nat),n] (.p 1 .x) (.p 51<|.m 2<|.p 1 .y) .x (.p 51<|.m 2 .y) rfl this)
  |doo op ps=>refine⟨d4 .str .str (l h.1 h.2).1,?_⟩;have:max 0 (max 0<|max (depthAll (b5 c ps)+1) 0)<=2*n+52:=max_le.mpr ⟨Y7 _,max_le.mpr ⟨Y7 _,max_le.mpr ⟨succ_le_succ (l h.1 h.2).2,Y7 _⟩⟩⟩;exact(L1 [max (0:Nat)<|max (0:Nat)<|max (depthAll (b5 c ps)+1) (0:Nat),n] (.p 1 .x) (.p 51<|.m 2<|.p 1 .y) .x (.p 52<|.m 2 .y) rfl this)
  |call f ks ps=>refine⟨d4 .str .str (l h.2.1 h.2.2).1,?_⟩;have:max 0 (max 0<|max (depthAll (b5 c ps)+1) 0)<=2*n+52:=max_le.mpr ⟨Y7 _,max_le.mpr ⟨Y7 _,max_le.mpr ⟨succ_le_succ (l h.2.1 h.2.2).2,Y7 _⟩⟩⟩;exact(L1 [max (0:Nat)<|max (0:Nat)<|max (depthAll (b5 c ps)+1) (0:Nat),n] (.p 1 .x) (.p 51<|.m 2<|.p 1 .y) .x (.p 52<|.m 2 .y) rfl this)
theorem E1:∀{X:List R}{k i:Nat}{M:C},X.length=M.length->i<X.length-> ∃l,(cO fs c k M X)[i]?=some (.tuple (.str (lP<|k+i)::l)):=by intro X;induction X with
 |nil=>intro k i M _ h;cases h
 |cons d X ih=>intro k i M hl h;cases M with
  |nil=>cases hl
  |cons y M=>cases i with
   |zero=>exact⟨_,rfl⟩
   |succ i=>obtain⟨l,e⟩:=ih (k:=k+1) (i:=i) (M:=M) (Y9 hl)<|lt_of_succ_lt_succ h;exact⟨l,by refine O (show k+(i+1)=k+1+i by exact(Zk (L0 [k,i] (.a .x<|.p 1 .y) (.a (.p 1 .x) .y) rfl)<|L0 [k,i] (.a (.p 1 .x) .y) (.a .x<|.p 1 .y) rfl)) ?_;exact e⟩
abbrev Lm(N:Nat)(c:C)(F:VX)(r:R):Prop:=cF P N false 41 [.fz<|aD r,.fz<|.list<|c.map ay,.fz<|.tuple F]=eV (encM c r)
section
variable {N:Nat}{c:C}{F:VX}
theorem yw(a0 a3 a5 a6:Slot):∀(ps:List R)(s:Slot),(∀p∈ps,Lm N c F p)->bB ⟨P.glob,cF P N,[],false⟩ [a0,.fz<|.list<|c.map ay,.fz<|.tuple F,a3,s,a5,a6] (.call 41 [ae 4,ae 1,ae 2]) (.one 4) [] (eF ps)=some (.ok<|b5 c ps,[a0,.fz<|.list<|c.map ay,.fz<|.tuple F,a3,.no,a5,a6]):=by intro ps;induction ps with
 |nil=>intro s _;exact aL ..
 |cons p ps ih=>intro s H;exact O (show eF (p::ps)=aD p::eF ps from rfl)<|O (show b5 c (p::ps)=encM c p::b5 c ps from rfl)<|jS [.c 0<|(H p Zt),.cp 0<|(ih (.fz<|aD p)<|eA H)] rfl
theorem yv(a0 a3 a4 a6:Slot):∀(ps:List R)(s:Slot),(∀p∈ps,Lm N c F p)->bB ⟨P.glob,cF P N,[],false⟩ [a0,.fz<|.list<|c.map ay,.fz<|.tuple F,a3,a4,s,a6] (.call 41 [ae 5,ae 1,ae 2]) (.one 5) [] (eF ps)=some (.ok<|b5 c ps,[a0,.fz<|.list<|c.map ay,.fz<|.tuple F,a3,a4,.no,a6]):=by intro ps;induction ps with
 |nil=>intro s _;exact aL ..
 |cons p ps ih=>intro s H;exact O (show eF (p::ps)=aD p::eF ps from rfl)<|O (show b5 c (p::ps)=encM c p::b5 c ps from rfl)<|jS [.c 0<|(H p Zt),.cp 0<|(ih (.fz<|aD p)<|eA H)] rfl
theorem qf(hc:∀x∈c,KC x)(hF:∀x∈c, ∃l,F[dj c x]?=some (.tuple (.str (lP<|dj c x)::l))):∀(n m:Nat)(r:R),Rk c n r->Lm (m+n) c F r:=by intro n;induction n with
 |zero=>exact λaa ai h=>h.elim
 |succ n ih=>
  intro m r h;show cF P (m+n+1) false 41 _=_
  have ih:=ih m;generalize m+n=N at *;cases r with
  |val d=>exact aG [] rfl
  |nam d=>exact aG [] rfl
  |ref d=>exact aG [] rfl
  |iff a b e=>have he:=ih e h.2.2;refine O (show aD (.iff a b e) = .tuple [.str iM,aD a,aD b,aD e] from rfl)<|O (show encM c (.iff a b e) = .tuple [.str iM,encM c a,encM c b,encM c e] from rfl) ?_;generalize encM c a=A at *;generalize encM c b=B at *;generalize encM c e=E at *;exact aG [.v 9<|(jr (.str iM) [aD a,aD b,aD e]),.c 2<|(ih a h.1),.c 1<|(ih b h.2.1),.c 1 he] rfl
  |doo op ps=>have lp:=yv (N:=N) (F:=F) (.fz<|aD<|.doo op ps) .no .no .no ps .no λp hp=>ih p<|h.2 p hp;rw[show aD (.doo op ps) = .tuple [.str jz,.str op,.tuple<|eF ps] from rfl]at lp ⊢;refine O (show encM c (.doo op ps) = .tuple [.str jz,.str op,.tuple<|b5 c ps] from rfl) ?_;generalize b5 c ps=IO at *;exact aG [.cp 9 lp] rfl
  |call f ks ps=>
   have lp:=yw (N:=N) (F:=F) (.fz<|aD<|.call f ks ps) .no .no .no ps .no λp hp=>ih p<|h.2.2 p hp;have bi:jm .index [.list<|c.map ay,ay (f,ks)]=some (.fz<|.int (dj c (f,ks):Nat)):=by rw[F7,YX<|Az (hc _ h.1) hc,(wT (hc _ h.1) hc h.1)];rfl
   refine aB (hF _ h.1) λl fl=>?_;have fx:cW (.tuple F) (.int (dj c (f,ks):Nat))=some (.tuple (.str (lP<|dj c (f,ks))::l)):=by
    show bf F ((dj c (f,ks):Nat):Int)=_
    unfold bf;refine O (YX<|ZV _) ?_;rw[ZU];exact fl
   rw[show aD (.call f ks ps) = .tuple [.str cV,ay (f,ks),.tuple<|eF ps] from rfl]at lp ⊢;refine O (show encM c (.call f ks ps) = .tuple [.str cV,.str<|lP<|dj c (f,ks),.tuple<|b5 c ps] from rfl) ?_;generalize b5 c ps=IO at *;generalize lP (dj c (f,ks))=W at *;generalize ((dj c (f,ks):Nat):Int)=j at *;exact aG [.cp 5 lp,.v 2 bi,.d 0 fx] rfl
end
end Lq
end
section
set_option backward.match.sparseCases false
namespace Lq
open PySem Mv
theorem KU(hw:∀h∈hs,h.wn.length<=6):∀{r:Nat}{t:T},Ok hs kn r t->7*(iR t).length+1<=8 ^ r:=by intro r;induction r with
 |zero=>exact λh=>h.elim
 |succ r ih=>
  intro t h;have p:1<=8 ^ r:=Nat.pow_pos (by decide);have l:∀{ts:List T},(∀t∈ts,Ok hs kn r t)->7*(cq ts).length+ts.length<=ts.length*8 ^ r:=fun {ts} h=>by induction ts with
   |nil=>show 7*0+0<=0*_;rw[Nat.zero_mul];exact Zh _
   |cons t ts IH=>
    show 7*(iR t++cq ts).length+(ts.length+1)<=(ts.length+1)*8 ^ r
    refine O ZI<|O (show(ts.length+1)*8 ^ r=ts.length*8 ^ r+8 ^ r from Nat.succ_mul _ _) ?_;generalize ts.length*8 ^ r=Id at *;generalize 8 ^ r=Z at *;exact(Ln [(iR t).length,(cq ts).length,ts.length,Id,Z] (.w (.a (.m 7<|.a .x .y)<|.p 1 .z)<|.a .u<|.v 4) [Gl (.a (.m 7 .y) .z) .u,Gl (.p 1<|.m 7 .x)<|.v 4] rfl (IH<|eA h)<|ih<|h t Zt)
  have e:8 ^ (r+1)=8*8 ^ r:=by rw[Nat.pow_succ,mul_comm]
  have m:∀{ts:List T},ts.length<=8->(∀t∈ts,Ok hs kn r t)->7*(cq ts).length+8<=8 ^ (r+1):=fun {ts} hl h=>by
   have a:=l h;refine O e ?_;obtain⟨j,hj⟩:∃j,8=ts.length+j:=⟨8-ts.length,(Zn hl).symm⟩
   have b:8*8 ^ r=ts.length*8 ^ r+j*8 ^ r:=by rw[<- Nat.add_mul];exact O hj.symm rfl
   have c:=Nat.le_mul_of_pos_right j p;generalize ts.length*8 ^ r=Id at *;generalize j*8 ^ r=dl at *;generalize 8 ^ r=Z at *;exact(Ln [(cq ts).length,Z,ts.length,j,Id,dl] (.w (.p 8<|.m 7 .x)<|.m 8 .y) [Ge (.c 8)<|.a .z .u,Gl (.a (.m 7 .x) .z)<|.v 4,Gl .u<|.v 5,Gf (.m 8 .y)<|.a (.v 4)<|.v 5] rfl hj a c b)
  cases t with
  |val d=>show 7*0+1<=_;rw[e];generalize 8 ^ r=Z at *;exact(Ln [Z] (.w (.p 1<|.m 7<|.c 0)<|.m 8 .x) [(8,.w (.c 1) .x)] rfl p)
  |nam d=>show 7*0+1<=_;rw[e];generalize 8 ^ r=Z at *;exact(Ln [Z] (.w (.p 1<|.m 7<|.c 0)<|.m 8 .x) [(8,.w (.c 1) .x)] rfl p)
  |ref d=>show 7*0+1<=_;rw[e];generalize 8 ^ r=Z at *;exact(Ln [Z] (.w (.p 1<|.m 7<|.c 0)<|.m 8 .x) [(8,.w (.c 1) .x)] rfl p)
  |iff ps=>have:=m (by refine O h.1 ?_;decide) h.2;show 7*(cq ps).length+1<=_;generalize 8 ^ (r+1)=Z at *;exact(L1 [(cq ps).length,Z] (.p 1<|.m 7 .x) .y (.p 8<|.m 7 .x) .y rfl this)
  |doo op ps=>have:=m (gV h.1.2) h.2;show 7*(cq ps).length+1<=_;generalize 8 ^ (r+1)=Z at *;exact(L1 [(cq ps).length,Z] (.p 1<|.m 7 .x) .y (.p 8<|.m 7 .x) .y rfl this)
  |call f ps=>
   obtain⟨⟨g,hg,_,hl,_⟩,hp⟩:=h;have:=m (by refine O hl ?_;have:=hw g hg;exact(L1 [g.wn.length] .x (.c 8) .x (.c 6) rfl this)) hp;show 7*(cq ps++[T.call f ps]).length+1<=_
   refine O ZI<|O ZD ?_;generalize 8 ^ (r+1)=Z at *;exact(L1 [(cq ps).length,Z] (.p 1<|.m 7<|.p 1 .x) .y (.p 8<|.m 7 .x) .y rfl this)
structure se(hs:List Hd)(fs:List Fun):Prop where
 pg:Pg hs fs 8
 cn:∀f∈fs,(iR f.2).length<=Sz
 ne:hs≠ []
 l4:hs.length<=4
 tp:eE∉hs.map (·.nm)
theorem Hs(G:Pg hs fs 8):∀f∈fs,(iR f.2).length<=Sz:=λf hf=>by have:=KU (λh hm=>by refine O (G.wn h hm) ?_;exact G.le h hm)<|G.ok f hf;have:7*(iR f.2).length+1<=16777216:=this;exact(dJ [(iR f.snd).length] [] 7 (.w .x<|.c 16777216) [Gl (.p 1<|.m 7 .x)<|.c 16777216] rfl ‹(7:Nat)*(iR f.snd).length+(1:Nat)<=(8:Nat) ^ (8:Nat)›)
theorem FP(l:List Bool):(l.filter id).length=l.count true:=by induction l with
 |nil=>rfl
 |cons b l ih=>cases b with
  |true=>refine O count_cons<|O ih.symm ?_;rfl
  |false=>rw[count_cons,<- ih];rfl
theorem Os(hh:gN l hs)(hp:Pk hs fs):se hs fs:=by
 have G:Pg hs fs 8:=⟨hp.hd,λf hf=>(hp.ok f hf).ok 8<|Zh _,hh.nd,λh hm=>(hh.ok h hm).wn,λh hm=>(hh.ok h hm).le,λh hm=>(hh.ok h hm).nd,λh hm=>by rw[FP];exact(hh.ok h hm).kt,Nat.le_succ_of_le hh.le⟩
 exact⟨G,Hs G,hh.hok.ne,hh.le,λm=>hh.nm.zz<|hh.mem _ m⟩
noncomputable def tmB(kn:VT):Nat->T->Bool
 |0,_=>false
 |r+1,t=>match t with
  |.val d=>CV d&&Sl.any λu=>eqv u d
  |.nam x=>dM x kn
  |.ref _=>true
  |.doo op [t]=>dM op [bq,cA,cB]&&tmB kn r t
  |_=>false
theorem yy:∀{r:Nat}{t:T},tmB kn r t=true->Tm kn t:=by intro r;induction r with
 |zero=>intro t h;cases h
 |succ r ih=>intro t h;cases t with
  |val d=>have h:=and_eq_true_iff.mp h;obtain⟨u,q⟩:=any_eq_true.mp h.2;exact .val<|oS u (lB q.1).key d (i8 h.1).vg.key q.2▸q.1
  |nam x=>exact .nam<|cL.mp h
  |ref x=>exact .ref
  |doo op ps=>
   rcases ps with _|⟨t,_|_⟩
   .cases h
   .have h:=and_eq_true_iff.mp h;exact .doo (cL.mp h.1)<|ih h.2
   .cases h
  |iff ps=>cases h
  |call f ps=>cases h
noncomputable def Cz(hs:List Hd)(kn:VT):Nat->T->Bool
 |0,_=>false
 |r+1,t=>match t with
  |.val d=>CV d
  |.nam _=>true
  |.ref _=>true
  |.iff ps=>decide (ps.length=3)&&ps.all (Cz hs kn r)
  |.doo op ps=>(gQ op&&bH op ps.length)&&ps.all (Cz hs kn r)
  |.call f ps=>(hs.any λh=>(decide (h.nm=f)&&decide (ps.length=h.wn.length))&&(ps.zip h.wn).all λp=>!p.2||tmB kn r p.1)&&ps.all (Cz hs kn r)
theorem ti:∀{r:Nat}{t:T},Cz hs kn r t=true->Ok hs kn r t:=by intro r;induction r with
 |zero=>intro t h;cases h
 |succ r ih=>intro t h;have al:∀{ps:List T},ps.all (Cz hs kn r)=true-> ∀t∈ps,Ok hs kn r t:=λh t ht=>ih<|all_eq_true.mp h t ht;cases t with
  |val d=>exact i8 h
  |nam x=>trivial
  |ref x=>trivial
  |iff ps=>have h:=and_eq_true_iff.mp h;exact⟨YW h.1,al h.2⟩
  |doo op ps=>have h:=and_eq_true_iff.mp h;exact⟨and_eq_true_iff.mp h.1,al h.2⟩
  |call f ps=>obtain⟨g,hg,e⟩:=any_eq_true.mp (and_eq_true_iff.mp h).1;refine⟨⟨g,hg,YW (and_eq_true_iff.mp (and_eq_true_iff.mp e).1).1,YW (and_eq_true_iff.mp (and_eq_true_iff.mp e).1).2,λp hp q=>?_⟩,al (and_eq_true_iff.mp h).2⟩;have:=all_eq_true.mp (and_eq_true_iff.mp e).2 p hp;rw[q]at this;exact yy this
end Lq
end
section
namespace Lq
open PySem Mv
noncomputable abbrev s_(l:VS):Str:=⟨l.toArray⟩
noncomputable abbrev IX:T:=.nam<|s_ [120]
noncomputable abbrev DN:T:=.nam<|s_ [107]
noncomputable abbrev GH:T:=.nam<|s_ [121]
noncomputable abbrev DM:T:=.nam<|s_ [110]
noncomputable abbrev IY(i:Int):T:=.val<|.int i
noncomputable abbrev tL:Str:=s_ [109,97]
noncomputable abbrev mK:Str:=s_ [116,119]
noncomputable def zh:List T:=[.ref bU,.doo eY [IX,IY 0],.call tL [IX,DN],IX,IY 1,.doo bq [IX],.call mK [IX,IY 1],.doo fQ [IY 999999999999999999,DN],.doo eG [IY 999999999999999999,IY 2],.doo gC [DN,IX],
 .doo fR [IX,.val<|.tuple<|replicate 48<|.int 0],.doo fR [DN,.val<|.tuple<|replicate 49<|.int 0]]
noncomputable def yr:List T:=[.doo bq [DN],.doo cA [DN],.doo cB [DN],.ref c8,DN,.doo bq [.doo cA [DN]],IY 3]
noncomputable def OZ:List T:=[.doo fQ [GH,DM],.doo aX [DM,GH,DM],.doo eY [GH,DM],.call tL [GH,DM]]
noncomputable def CD:List Hd:=[⟨tL,[s_ [120],s_ [107]],[false,true]⟩,⟨mK,[s_ [121],s_ [110]],[false,true]⟩]
theorem Dn:zh.all (Cz CD [s_ [107]] 7)=true:=by kernel_rfl
theorem Dm:yr.all (λt=>Cz CD [s_ [107]] 7 t&&tmB [s_ [107]] 7 t)=true:=by kernel_rfl
theorem uO:OZ.all (λt=>Cz CD [s_ [110]] 8 t&&Cz CD [s_ [110]] 8 (.iff [.doo bn [DM],GH,t]))=true:=by kernel_rfl
theorem AG{ts:List T}{c:Int}(h:0<ts.length):∃t∈ts,cW (.list<|ts.map bT) (.int<|c.fmod ts.length)=some (bT t):=by obtain⟨d,e,m⟩:=cj (M:=ts.map bT) (fm c ts.length<|ofNat_lt.mpr h).1 (by rw[ZG];exact(fm c ts.length<|ofNat_lt.mpr h).2);obtain⟨t,Q⟩:=mem_map.mp m;obtain rfl:=Q.2;have ht:=Q.1;exact⟨t,ht,e⟩
noncomputable def LN(a b t:T):List Fun:=[(⟨tL,[s_ [120],s_ [107]],[false,true]⟩,.call mK [a,b]),(⟨mK,[s_ [121],s_ [110]],[false,true]⟩,t)]
theorem GD{b:T}(ha:a∈zh)(hb:b∈yr)(ht:Cz CD [s_ [110]] 8 t=true):se CD (LN a b t):=by
 have hb:=and_eq_true_iff.mp<|all_eq_true.mp Dm b hb;have two:∀Q:Hd->Prop,Q ⟨tL,[s_ [120],s_ [107]],[false,true]⟩->Q ⟨mK,[s_ [121],s_ [110]],[false,true]⟩-> ∀h∈CD,Q h:=λQ h1 h2 h hm=>by
  rcases mem_cons.mp hm with rfl|hm
  .exact h1
  .exact O (mem_singleton.mp hm) h2
 have G:Pg CD (LN a b t) 8:=by
  refine⟨rfl,λf hf=>?_,by decide,two _ rfl rfl,two _ (by decide) (by decide),two _ (by decide) (by decide),two _ (by decide) (by decide),by decide⟩
  .rcases mem_cons.mp hf with rfl|hf
   .refine⟨⟨⟨mK,[s_ [121],s_ [110]],[false,true]⟩,.tail _<|.head _,rfl,rfl,λp hp q=>?_⟩,λu hu=>?_⟩
    .rcases mem_cons.mp (show p∈ [(a,false),(b,true)] from hp) with rfl|hp
     .cases q
     .exact O (mem_singleton.mp hp) (yy hb.2)
    .rcases mem_cons.mp hu with rfl|hu
     .exact ti (all_eq_true.mp Dn _ ha)
     .exact O (mem_singleton.mp hu) (ti hb.1)
   .exact O (mem_singleton.mp hf) (ti ht)
 exact⟨G,Hs G,by decide,by decide,by decide⟩
theorem sS(n:Nat)(M:List Int):∃fs,cF P (n+2) false 30 [.fz<|.list<|M.map .int]=eV (dW fs)/\se CD fs:=by
 refine aB (cell n M 19 (by decide)) λc hc=>?_;obtain⟨a,Z⟩:=AG (ts:=zh) (c:=c) (by decide);have ha:=Z.1;have e1:=Z.2;obtain⟨b,z⟩:=AG (ts:=yr) (c:=c.fdiv 12) (by decide);have hb:=z.1;have e2:=z.2;obtain⟨t,Q⟩:=AG (ts:=OZ) (c:=c.fdiv 84) (by decide);have ht:=Q.1;have e3:=Q.2;by_cases q:(c.fdiv 336).fmod 2=1
 .have q:aI .eq (.int<|(c.fdiv 336).fmod 2) (.int 1)=some true:=by rw[jL];exact O (Y0 q) rfl
  refine⟨LN a b<|.iff [.doo bn [DM],GH,t],?_,GD ha hb (and_eq_true_iff.mp<|all_eq_true.mp uO t ht).2⟩;exact O (show dW (LN a b<|.iff [.doo bn [DM],GH,t]) = .tuple [.tuple [.str tL,.tuple [.str<|s_ [120],.str<|s_ [107]],.tuple [.str cV,.str mK,.tuple [bT a,bT b]]],.tuple [.str mK,.tuple [.str<|s_ [121],.str<|s_ [110]],.tuple [.str iM,bT<|.doo bn [DM],bT GH,bT t]]] from rfl)<|aG [.c 0 hc,.d 9 e1,.d 2 e2,.d 2 e3,.b 2 q] rfl
 .have q:aI .eq (.int<|(c.fdiv 336).fmod 2) (.int 1)=some false:=by rw[jL];exact O (Y1 q) rfl
  refine⟨LN a b t,?_,GD ha hb (and_eq_true_iff.mp<|all_eq_true.mp uO t ht).1⟩;exact O (show dW (LN a b t) = .tuple [.tuple [.str tL,.tuple [.str<|s_ [120],.str<|s_ [107]],.tuple [.str cV,.str mK,.tuple [bT a,bT b]]],.tuple [.str mK,.tuple [.str<|s_ [121],.str<|s_ [110]],bT t]] from rfl)<|aG [.c 0 hc,.d 9 e1,.d 2 e2,.d 2 e3,.b 2 q] rfl
theorem BG(n:Nat)(M:List Int):∃hs fs,cF P (n+22) false 31 [.fz<|.list<|M.map .int]=eV (.tuple [.list<|hs.map dE,dW fs])/\se hs fs:=by
 refine aB (cell (n+20) M 18 (by decide)) λc hc=>?_;by_cases q:c.fmod 4=1
 .have q:aI .eq (.int<|c.fmod 4) (.int 1)=some true:=by rw[jL];exact O (Y0 q) rfl
  obtain⟨fs,sp,ok⟩:=sS (n+19) M;refine⟨CD,fs,?_,ok⟩;generalize dW fs=F at sp ⊢;exact aG [.c 0 hc,.b 1 q,.c 1 sp] rfl
 .have q:aI .eq (.int<|c.fmod 4) (.int 1)=some false:=by rw[jL];exact O (Y1 q) rfl
  refine kF (AP (n+19) M) λl hs r Q=>?_;obtain⟨fs,h2,hp⟩:=sZ n M Q.2.1;refine⟨hs,fs,?_,Os Q.2.1 hp⟩;generalize dW fs=F at h2 ⊢;rcases Q.2.2 with rfl|rfl
  .exact aG [.c 0 hc,.b 1 q,.c 1<|Q.1,.c 0 h2] rfl
  .exact aG [.c 0 hc,.b 1 q,.c 1<|Q.1,.c 0 h2] rfl
noncomputable abbrev yO(M:List Int):Slot:=.fz<|.list<|M.map .int
noncomputable def wr:Nat->T->T
 |0,t=>t
 |k+1,t=>wr k<|.doo aX [t]
theorem MF:∀(k r:Nat)(t:T),Ok hs kn r t->Ok hs kn (r+k) (wr k t):=by intro k;induction k with
 |zero=>exact λr t h=>h
 |succ k ih=>intro r t h;have:=ih (r+1) (.doo aX [t]) ⟨⟨by kernel_rfl,by kernel_rfl⟩,λu hu=>by refine O (mem_singleton.mp hu) ?_;exact h⟩;rw[Nat.succ_add_eq_add_succ]at this;exact this
theorem KQ:∀(k:Nat)(t:T),iR (wr k t)=iR t:=by intro k;induction k with
 |zero=>exact λaa=>rfl
 |succ k ih=>intro t;show iR (wr k<|.doo aX [t])=_;rw[ih];exact ZO _
theorem C2(N:Nat)(a0 a1 a2 a3 a4 a5 a6 a9:Slot):∀(ac:VX)(t:T)(s8:Slot),cm ⟨P.glob,cF P N,[],false⟩ [a0,a1,a2,a3,a4,a5,a6,.fz<|bT t,s8,a9] (.one 8) SM [8] ac=some (.ok .next,[a0,a1,a2,a3,a4,a5,a6,.fz<|bT<|wr ac.length t,.no,a9]):=by intro ac;induction ac with
 |nil=>exact @λt s8=>by rw[bb];rfl
 |cons i ac IH=>intro t s8;have ih:=IH (.doo aX [t])<|.fz i;rw[(rfl:bT (.doo aX [t]) = .tuple [.str jz,.str aX,.tuple [bT t]])]at ih;generalize bT (wr ac.length<|.doo aX [t])=z at ih ⊢;generalize bT t=x at ih ⊢;exact eM [.lp 0 ih] rfl
theorem DX(N:Nat)(a0 a1 a2 a3 a4 a5 a6 a7 a8:Slot):∀(ps:VT)(s9:Slot),bB ⟨P.glob,cF P N,[],false⟩ [a0,a1,a2,a3,a4,a5,a6,a7,a8,s9] (.tup [vD,ae 9]) (.one 9) [] (ps.map .str)=some (.ok<|aZ<|ps.map .nam,[a0,a1,a2,a3,a4,a5,a6,a7,a8,.no]):=by intro ps;induction ps with
 |nil=>exact @λs9=>by refine O Zy ?_;rw[aL];rfl
 |cons p ps IH=>intro s9;have ih:=IH<|.fz<|.str p;refine O Zz ?_;generalize aZ (ps.map .nam)=z at ih ⊢;exact jS [.cp 0 ih] rfl
theorem JB{x:Str}:∀{ps:VT}{wn:List Bool},(T.nam x,true)∈(ps.map T.nam).zip wn->x∈cw ps wn:=by intro ps;induction ps with
 |nil=>intro wn h;cases h
 |cons p ps ih=>intro wn h;cases wn with
  |nil=>cases h
  |cons b wn=>
   rcases mem_cons.mp (show(T.nam x,true)∈(T.nam p,b)::(ps.map T.nam).zip wn from h) with g|g
   .cases g;exact Zt
   .cases b with
    |true=>exact Zu _<|ih g
    |false=>exact ih g
theorem Ok.sub{tO:List Hd}(hm:∀h∈hs,h∈tO) :∀{r:Nat}{t:T},Ok hs kn r t->Ok tO kn r t:=by intro r;induction r with
 |zero=>exact λh=>h.elim
 |succ r ih=>intro t h;cases t with
  |val d=>exact h
  |nam x=>trivial
  |ref x=>trivial
  |iff ps=>exact⟨h.1,λt m=>ih<|h.2 t m⟩
  |doo op ps=>exact⟨h.1,λt m=>ih<|h.2 t m⟩
  |call f ps=>obtain⟨⟨g,hg,a⟩,b⟩:=h;exact⟨⟨g,hm g hg,a⟩,λt m=>ih<|b t m⟩
structure Ll(hs:List Hd)(fs:List Fun):Prop where
 pg:Pg hs fs 20
 cn:∀f∈fs,(iR f.2).length<=Sz
 ne:fs≠ []
theorem se.tp20(a:se hs fs):Ll hs fs:=by obtain⟨⟨p1,p2,p3,p4,p5,p6,p7,p8⟩,cn,ne,_,_⟩:=a;exact⟨⟨p1,λf hf=>(p2 f hf).mono (by decide),p3,p4,p5,p6,p7,p8⟩,cn,λe=>ne (by refine O p1.symm<|O e ?_;rfl)⟩
theorem H7{h0:Hd}{hr:List Hd}(a:se (h0::hr) fs)(hk:k<=17):Ll (⟨eE,h0.ps,h0.wn⟩::h0::hr) ((⟨eE,h0.ps,h0.wn⟩,wr k<|.call h0.nm<|h0.ps.map .nam)::fs):=by
 obtain⟨⟨p1,p2,p3,p4,p5,p6,p7,p8⟩,cn,ne,l4,tp⟩:=a;have sub:∀h∈h0::hr,h∈(⟨eE,h0.ps,h0.wn⟩::h0::hr:List Hd):=λh hm=>Zu _ hm;have all:∀Q:Hd->Prop,(∀h∈h0::hr,Q h)->(∀ps wn nm CA,Q ⟨nm,ps,wn⟩->Q ⟨CA,ps,wn⟩)-> ∀h∈(⟨eE,h0.ps,h0.wn⟩::h0::hr:List Hd),Q h:=λQ H t h hm=>by
  rcases mem_cons.mp hm with rfl|hm
  .exact t _ _ _ _ (H h0 Zt)
  .exact H h hm
 refine⟨⟨Y2 (_ :: ·) p1,λf hf=>?_,nodup_cons.mpr ⟨tp,p3⟩,all _ p4 (λaa ai br eH h=>h),all _ p5 (λaa ai br eH h=>h),all _ p6 (λaa ai br eH h=>h),all _ p7 (λaa ai br eH h=>h),?_⟩,λf hf=>?_,by simp⟩
 .rcases mem_cons.mp hf with rfl|hf
  .refine(MF k 2 _ ?_).mono (show 2+k<=20 by exact(L1 [k] (.a (.c 2) .x) (.c 20) .x (.c 17) rfl hk))
   refine⟨⟨h0,.tail _<|.head _,rfl,by rw[ZG];exact O (p4 h0 Zt) rfl,λp hp q=>?_⟩,λu hu=>?_⟩
   .obtain⟨u,b⟩:=p;subst q;obtain⟨x,Z⟩:=mem_map.mp (of_mem_zip hp).1;obtain rfl:=Z.2;exact .nam<|JB hp
   .refine aB (mem_map.mp hu) λx z=>?_;obtain rfl:=z.2;trivial
  .exact((p2 f hf).sub sub).mono (by decide)
 .exact succ_le_succ l4
 .rcases mem_cons.mp hf with rfl|hf
  .rw[KQ];show(cq (h0.ps.map .nam)++[_]).length<=Sz
   have e:∀l:VT,cq (l.map .nam)=[]:=λl=>by induction l with
    |nil=>rfl
    |cons x l ih=>exact ih
   rw[e];show 1<=16777216;decide
  .exact cn f hf
theorem v9(N:Nat)(M:List Int)(a:se hs fs):∃tO mE,cF P (N+2) false 32 [yO M,sH hs,.fz<|dW fs]=eV (.tuple [.list<|tO.map dE,dW mE])/\Ll tO mE:=by
 obtain⟨c,hc⟩:=cell N M 20 (by decide);by_cases q:c.fmod 6=1
 .have q1:aI .ne (.int<|c.fmod 6) (.int 1)=some false:=by rw[mn,pq,Y0 q];rfl
  cases hs with
  |nil=>exact absurd rfl a.ne
  |cons h0 hr=>
   have Rp:=fm (c.fdiv 6) 17 (by decide);obtain⟨k,hk⟩:∃k:Nat,1+(c.fdiv 6).fmod 17=(k:Int):=⟨(1+(c.fdiv 6).fmod 17).toNat,(ZT<|Int.add_nonneg (by decide) Rp.1).symm⟩
   have Ta:k<=17:=by have:=Rp.2;exact(dJ [k] [(c.fdiv (6:Int)).fmod (17:Int)] 1 (.w .x<|.c 17) [Gi (.p 1 .x)<|.c 17,Gk (.a (.c 1) .x)<|.n .x] rfl Rp.2 hk)
   have ha:op2 .add (.int 1) (.int<|(c.fdiv 6).fmod 17)=some (.fz<|.int (k:Int)):=by rw[Ji,hk]
   have AK:b4 .range [.int (k:Int)]=some ((List.range k).map λ(k:Nat)=>int<|0+k):=(bD _).trans<|cJ k (by exact(L1 [k] .x (.c 1000) .x (.c 17) rfl Ta));refine⟨_,_,?_,H7 a Ta⟩;have cp:=DX (N+1) (yO M) (sH (h0::hr)) (.fz<|dW fs) (.fz<|.int c) (.fz<|.str h0.nm) (.fz<|dq h0.ps) (.fz<|.tuple<|h0.wn.map .bool) .no .no h0.ps .no;have lp:=C2 (N+1) (yO M) (sH (h0::hr)) (.fz<|dW fs) (.fz<|.int c) (.fz<|.str h0.nm) (.fz<|dq h0.ps) (.fz<|.tuple<|h0.wn.map .bool) .no ((List.range k).map λ(k:Nat)=>int<|0+k) (.call h0.nm<|h0.ps.map .nam) .no;rw[ZG,ZE,(rfl:bT (.call h0.nm<|h0.ps.map .nam) = .tuple [.str cV,.str h0.nm,.tuple<|aZ<|h0.ps.map .nam])]at lp;have l4:=a.l4;have o1:op2 .add (.list [.tuple [.str eE,dq h0.ps,.tuple<|h0.wn.map .bool]]) (.list<|(h0::hr).map dE)=some (.KK<|.list (.tuple [.str eE,dq h0.ps,.tuple<|h0.wn.map .bool]::(h0::hr).map dE)):=by refine(lN _ _).trans<|YX ?_;rw[ZG];show 1+(h0::hr).length<=16777216;exact(L1 [hr.length] (.a (.c 1)<|.p 1 .x) (.c 16777216) (.p 1 .x) (.c 4) rfl l4)
   have o2:op2 .add (.tuple [.tuple [.str eE,dq h0.ps,bT<|wr k<|.call h0.nm<|h0.ps.map .nam]]) (dW fs)=some (.fz<|.tuple (.tuple [.str eE,dq h0.ps,bT<|wr k<|.call h0.nm<|h0.ps.map .nam]::fs.map gR)):=by
    show op2 .add _ (.tuple<|fs.map gR)=_
    refine(zp _ _).trans<|YX ?_;rw[ZG,<- ZG (f:=λp:Fun=>p.1),a.pg.hd];show 1+(h0::hr).length<=16777216;exact(L1 [hr.length] (.a (.c 1)<|.p 1 .x) (.c 16777216) (.p 1 .x) (.c 4) rfl l4)
   rw[show(((⟨eE,h0.ps,h0.wn⟩::h0::hr:List Hd)).map dE) = .tuple [.str eE,dq h0.ps,.tuple<|h0.wn.map .bool]::(h0::hr).map dE from rfl,show dW ((⟨eE,h0.ps,h0.wn⟩,wr k<|.call h0.nm<|h0.ps.map .nam)::fs) = .tuple (.tuple [.str eE,dq h0.ps,bT<|wr k<|.call h0.nm<|h0.ps.map .nam]::fs.map gR) from rfl];generalize bT (wr k<|.call h0.nm<|h0.ps.map .nam)=W at *;generalize aZ (h0.ps.map .nam)=IO at *;generalize ((k:Nat):Int)=j at *;exact aG [.c 0 hc,.b 1 q1,.cp 3 cp,.v 3 ha,.l 0 AK,.lp 0 lp,.v 0 o1,.v 0 o2] rfl
 .have q1:aI .ne (.int<|c.fmod 6) (.int 1)=some true:=by rw[mn,pq,Y1 q];rfl
  refine⟨hs,fs,?_,a.tp20⟩;exact aG [.c 0 hc,.b 1 q1] rfl
theorem EF(n:Nat)(M:List Int)(a1:Slot):∀(js:VS)(VM:VX)(s3 s4:Slot),VM.length+js.length<=1000->xX (λks=>cm ⟨P.glob,cF P<|n+1,[],false⟩ [yO M,a1,.KK<|.list VM,s3,s4] (.one 3) Te [3,4] (js.map λ(j:Nat)=>.int<|0+j)=some (.ok .next,[yO M,a1,.KK<|.list<|VM++ks,.no,.no])) (λks=>ks.length=js.length) (λks=> ∀k∈ks,k∈Sl):=by intro js;induction js with
 |nil=>intro VM s3 s4 _;exact⟨[],by refine O Zy ?_;rw[ZO];exact bb ..,rfl,λaa h=>by cases h⟩
 |cons j js ih=>
  intro VM s3 s4 hl;rw[ZH]at hl;refine aB (cell n M (12+(0+(j:Int))) (by exact(Ln [j] (.i (.c 0)<|.a (.c 12)<|.a (.c 0)<|.n .x) [] rfl))) λc hc=>?_;refine aB (cell n M 1 (by decide)) λc1 L4=>?_;obtain⟨d,hd,hv⟩:=A2 n c<|(1+c1.fmod 4).fmod 3;obtain⟨ks,q,e,hs⟩:=ih (VM++[d]) (.fz<|.int<|0+j) (.fz<|.int c) (by refine O ZI<|O ZD ?_;exact(L1 [VM.length,js.length] (.a (.p 1 .x) .y) (.c 1000) (.a .x<|.p 1 .y) (.c 1000) rfl hl));refine⟨d::ks,?_,by exact O ZH<|O ZH<|O e rfl,λk hk=>?_⟩
  .have hz:decide (VM.length<Sz)=true:=Y0 (by show VM.length<16777216;exact(L1 [VM.length,js.length] (.p 1 .x) (.c 16777216) (.a .x<|.p 1 .y) (.c 1000) rfl hl));rw[ZP]at q;refine O Zz ?_;generalize (0:Int)+(j:Nat)=i at *;exact eM [.c 1 hc,.c 0 L4,.c 3 hd,.t 0 hz,.lp 0 q] rfl
  .rcases mem_cons.mp hk with rfl|hk
   .exact hv.2
   .exact hs k hk
theorem wR(n:Nat)(M:List Int)(gP:Nat)(hm:gP<=1000):∃ks,cF P (n+2) false 28 [yO M,.fz<|.int gP]=eV (.tuple ks)/\ks.length=gP/\ ∀k∈ks,k∈Sl:=by obtain⟨ks,q,e,hs⟩:=EF n M (.fz<|.int gP) (List.range gP) [] .no .no (by refine O ZE ?_;show 0+gP<=1000;exact(L1 [gP] (.a (.c 0) .x) (.c 1000) .x (.c 1000) rfl hm));refine⟨ks,?_,by exact O e<|O ZE rfl,hs⟩;rw[Zq]at q;generalize ((gP:Nat):Int)=j at *;exact aG [.l 0<|((bD _).trans<|cJ gP hm),.lp 0 q] rfl
noncomputable abbrev IZ(h:Hd):D:=.tuple [.str h.nm,.tuple<|h.wn.map .bool]
theorem Do(n:Nat)(a0:Slot):∀(hs:List Hd)(s1:Slot),bB ⟨P.glob,cF P n,[],false⟩ [a0,s1] (.tup [iP,.idx (ae 1) f8]) (.one 1) [] (hs.map dE)=some (.ok<|hs.map IZ,[a0,.no]):=by intro hs;induction hs with
 |nil=>intro s1;refine O Zy ?_;rw[aL];rfl
 |cons h hs ih=>intro s1;exact O Zz<|O Zz<|jS [.cp 2<|(ih<|.fz<|dE h)] rfl
theorem KG:∀(hs VM:List Hd),((VM++hs).map (·.nm)).Nodup->iQ (bg VM) (hs.map IZ)=some (bg<|VM++hs):=by intro hs;induction hs with
 |nil=>intro VM _;rw[ZO];rfl
 |cons h hs ih=>
  intro VM nd;show iQ (dO (bg VM) h.nm<|.tuple<|h.wn.map .bool) (hs.map IZ)=_
  have nk:PX (bg VM) h.nm:=λp hp=>by obtain⟨g,hg,rfl⟩:=mem_map.mp hp;intro e;rw[ZB,nodup_append]at nd;exact nd.2.2 g.nm (mem_map.mpr ⟨g,hg,rfl⟩) h.nm Zt<|str.inj e
  have e:dO (bg VM) h.nm (.tuple<|h.wn.map .bool)=bg (VM++[h]):=by
   unfold dO;refine O (kY nk) ?_;show bg VM++[_]=_
   unfold bg;refine O ZB ?_;rfl
  refine O e ?_;rw[ih (VM++[h]) (by rw[ZP];exact nd),ZP];rfl
theorem sT(n:Nat)(nd:(hs.map (·.nm)).Nodup)(h5:hs.length<=5):cF P (n+1) false 29 [sH hs]=some (.ok<|.KK<|.dict<|bg hs,[]):=by
 have e:jm .dict [.list<|hs.map IZ]=some (.KK<|.dict<|bg hs):=by
  show(if (hs.map IZ).length<=1000 then(iQ []<|hs.map IZ).map λkvs=>Rv.KK (.dict kvs) else none)=_
  refine O (YX (by rw[ZG];exact(L1 [hs.length] .x (.c 1000) .x (.c 5) rfl h5)))<|O (show iQ [] (hs.map IZ)=some (bg hs) from KG hs [] nd) ?_;rfl
 exact aG [.cp 1<|(Do n (sH hs) hs .no),.v 0 e] rfl
noncomputable def kB:List Fun->Str->List Fun
 |[],_=>[]
 |f::fs,x=>if f.1.nm=x then f::kB fs x else kB fs x
theorem tV{x:Str}{f:Fun}:∀{fs:List Fun},j6 fs x=some f-> ∃l,kB fs x=f::l:=by intro fs;induction fs with
 |nil=>intro h;exact am h
 |cons g fs ih=>
  intro h;have h:(if g.1.nm=x then some g else j6 fs x)=some f:=h;show ∃l,(if g.1.nm=x then g::kB fs x else kB fs x)=f::l
  by_cases q:g.1.nm=x
  .rw[YX q]at h ⊢;obtain rfl:=aE h;exact⟨_,rfl⟩
  .rw[YY q]at h ⊢;exact ih h
theorem E5(N:Nat)(x:Str)(a0 a1 a2 a3 a4 a5 a6 a7 a9 im kR n5 vQ vP vN Cd:Slot):∀(fs:List Fun)(s:Slot),
  bB ⟨P.glob,cF P N,[],false⟩ [a0,a1,a2,a3,a4,a5,a6,a7,.fz<|.str x,a9,im,kR,n5,vQ,vP,s,vN,Cd] (ae 15) (.one 15) [.cmp .eq (.idx (ae 15) dK)<|ae 8] (fs.map gR)=some (.ok<|(kB fs x).map gR,[a0,a1,a2,a3,a4,a5,a6,a7,.fz<|.str x,a9,im,kR,n5,vQ,vP,.no,vN,Cd]):=by
 intro fs;induction fs with
 |nil=>intro s;refine O Zy ?_;rw[aL];rfl
 |cons f fs ih=>
  intro s;refine O Zz ?_;show _=some (Except.ok<|(if f.1.nm=x then f::kB fs x else kB fs x).map gR,_)
  by_cases h:f.1.nm=x
  .have e:=MD h;exact O (YX h)<|O Zz<|jS [.b 1 e,.cp 1<|(ih<|.fz<|gR f)] rfl
  .have e:=kK h;exact O (YY h)<|jS [.b 1 e,.cp 1<|(ih<|.fz<|gR f)] rfl
theorem Ap(N:Nat)(ps:VT)(wn:List Bool)(hw:wn.length=ps.length)(t zb:D)(a0 a1 a2 a3 a4 a5 a6 a7 a8 a9 n5 vQ vP vO Cd n0:Slot):∀(js:VS)(s:Slot),(∀j∈js,j<ps.length)->
  bB ⟨P.glob,cF P N,[],false⟩ [a0,a1,a2,a3,a4,a5,a6,a7,a8,a9,.fz<|.tuple [t,dq ps,zb],.fz<|.tuple<|wn.map .bool,n5,vQ,vP,vO,s,Cd] (.idx (.idx (ae 10) cY)<|ae 16) (.one 16) [.idx (ae 11)<|ae 16] (js.map λ(j:Nat)=>.int<|0+j)=some (.ok<|(mJ ps wn js).map .str,[a0,a1,a2,a3,a4,a5,a6,a7,a8,a9,.fz<|.tuple [t,dq ps,zb],.fz<|.tuple<|wn.map .bool,n5,vQ,vP,vO,.no,Cd]):=by
 intro js;induction js with
 |nil=>intro s _;rw[Zy,aL];rfl
 |cons j js IH=>
  intro s hj;have j1:=hj j Zt;have hb:=sK wn j (by rw[hw];exact j1);have hx:bf (ps.map str) (0+(j:Int))=some (.str<|ps.getD j ⟨#[]⟩):=by rw[ZR];exact lb j1
  have q:=IH (.fz<|.int<|0+j)<|eA hj;rw[show mJ ps wn (j::js)=if wn.getD j false then ps.getD j ⟨#[]⟩::mJ ps wn js else mJ ps wn js from rfl,Zz];generalize wn.getD j false=b at hb;generalize ps.getD j ⟨#[]⟩=y at hx;generalize (0:Int)+(j:Nat)=i at *;cases b with
  |true=>show _=some (Except.ok<|(y::mJ ps wn js).map str,_);rw[Zz];exact jS [.d 0 hb,.d 2 hx,.cp 0 q] rfl
  |false=>show _=some (Except.ok<|(mJ ps wn js).map str,_);exact jS [.d 0 hb,.cp 1 q] rfl
noncomputable abbrev Uw:Ex:=.cmp .lt Kx Kw
theorem Jv(G:Pg hs fs d)(m:Nat)(a0 a1 a4 a5:Slot):∀(n:Nat)(X:List R)(c:C)(iH:List R)(c':C)(s8 s9 fO jt lF:Slot),go (Bd hs fs) n X c=some (iH,c')->r9 hs d X c->
  yb ⟨P.glob,cF P<|m+2*d+60,[],false⟩ [a0,a1,.fz<|dW fs,.fz<|.dict<|bg hs,a4,a5,cS c,.KK<|.list<|X.map aD,s8,s9,fO,jt,lF,.no,.no,.no,.no,.no] Uw M8 [8,9,10,11,12] n=some (.ok .next,[a0,a1,.fz<|dW fs,.fz<|.dict<|bg hs,a4,a5,cS c',.KK<|.list<|iH.map aD,.no,.no,.no,.no,.no,.no,.no,.no,.no,.no]):=by
 intro n;induction n with
 |zero=>intro X c iH c' s8 s9 fO jt lF h;cases h
 |succ n ih=>
  intro X c iH c' s8 s9 fO jt lF h o;rw[N6]at h;have b1:jm .len [.list<|X.map aD]=some (.fz<|.int X.length):=by rw[jN];show some (Rv.fz<|.int ((X.map aD).length:Nat))=_;rw[ZG]
  have b2:jm .len [.list<|c.map ay]=some (.fz<|.int c.length):=by rw[jN];show some (Rv.fz<|.int ((c.map ay).length:Nat))=_;rw[ZG]
  cases q:c[X.length]? with
  |none=>
   rw[q]at h;have h:some (X,c)=some (iH,c'):=h;cases h;have sw:=List.getElem?_eq_none_iff.mp q;have lt:aI .lt (.int X.length) (.int c.length)=some false:=by rw[uz,Y1];exact λh=>Nat.not_lt.mpr sw<|ofNat_lt.mp h
   generalize ((X.length:Nat):Int)=i at b1 lt;generalize ((c.length:Nat):Int)=j at b2 lt;exact PA [.v 0 b1,.v 0 b2,.b 0 lt] rfl
  |some x=>
   rw[q]at h;have h:go (Bd hs fs) n (X++[(Bd hs fs x c).1]) (Bd hs fs x c).2=some (iH,c'):=h;have hl:=(List.getElem?_eq_some_iff.mp q).1;have lt:aI .lt (.int X.length) (.int c.length)=some true:=by rw[uz,Y0<|ofNat_lt.mpr hl]
   have u:=o.ck.us x<|Zs q;obtain⟨f,k⟩:=G.case u;have h1:cW (.list<|c.map ay) (.int X.length)=some (ay x):=by
    show bf (c.map ay) ((X.length:Nat):Int)=_
    unfold bf;rw[YX<|ZV _,ZU,ZJ,q];rfl
   obtain⟨l,el⟩:=tV k.at';have fc:=E5 (m+2*d+60) x.1 a0 a1 (.fz<|dW fs) (.fz<|.dict<|bg hs) a4 a5 (cS c) (.KK<|.list<|X.map aD) (.fz<|.tuple x.2) .no .no .no .no .no .no .no fs .no;rw[el,Zz]at fc;have h3:=gX G.nd k.hm;rw[k.nm]at h3;have kc:=Ap (m+2*d+60) f.1.ps f.1.wn (G.wn _ k.hm) (.str f.1.nm) (bT f.2) a0 a1 (.fz<|dW fs) (.fz<|.dict<|bg hs) a4 a5 (cS c) (.KK<|.list<|X.map aD) (.fz<|.str x.1) (.fz<|.tuple x.2) .no .no .no .no .no .no (List.range f.1.wn.length) .no (λj hj=>by rw[<- G.wn _ k.hm];exact mem_range.mp hj);rw[G.wn _ k.hm,vb _ _<|G.wn _ k.hm]at kc;have hr:b4 .range [.int ((f.1.wn.map PyData.bool).length:Nat)]=some ((List.range f.1.ps.length).map λ(k:Nat)=>int<|0+k):=by rw[ZG,G.wn _ k.hm];exact(bD _).trans<|cJ _<|Zg (G.le _ k.hm) (by decide)
   have hd:=vE k.kd k.kl k.k6;have lw:=wL (LE:=kv (cw f.1.ps f.1.wn) x.2) (kn:=cw f.1.ps f.1.wn) G (λy hy=>by obtain⟨v,e,hv⟩:=tJ hy k.kl;exact⟨v,e,u.sl v hv⟩) (λy v e=>lB<|u.sl v<|tI e) d f.2 (G.ok f k.mem) m c o.ck;have eb:Bd hs fs x c=lf hs (kv (cw f.1.ps f.1.wn) x.2) f.2 c:=by unfold Bd;rw[k.at'];rfl
   have w:=ih _ _ _ _ (.fz<|.str x.1) (.fz<|.tuple x.2) (.fz<|gR f) (.fz<|.tuple<|f.1.wn.map .bool) (.fz<|.list<|(cw f.1.ps f.1.wn).map .str) h<|o.step G q;have hz:decide ((X.map aD).length<Sz)=true:=Y0 (by rw[ZG];have:=o.ck.le;show X.length<16777216;exact(Ln [X.length,length c] (.w (.p 1 .x)<|.c 16777216) [Gl (.p 1 .x) .y,Gl .y<|.c 2315] rfl hl this));rw[eb,ZB]at w;have lw:cF P (m+2*d+60) false 40 [.fz<|bT f.2,.fz<|.dict<|kv (cw f.1.ps f.1.wn) x.2,.fz<|.dict<|bg hs,cS c]=_:=lw;generalize lf hs (kv (cw f.1.ps f.1.wn) x.2) f.2 c=p at lw w;obtain⟨r,c1⟩:=p;dsimp only at lw w;generalize bg hs=sd at *;generalize m+2*d=N at *;generalize ((X.length:Nat):Int)=i at b1 lt h1;generalize ((c.length:Nat):Int)=j at b2 lt;exact PA [.v 0 b1,.v 0 b2,.b 0 lt,.v 1 b1,.d 0 h1,.cp 1 fc,.d 1 h3,.l 1 hr,.cp 0 kc,.v 1 hd,.c 0 lw,.t 0 hz,.lp 0 w] rfl
theorem CZ(n:Nat):cF P (n+100) false 42 []=GI true:=by kernel_rfl
theorem CP(N:Nat)(a0 a1 a2 a3 a4 a5 a6 a7 a8 a9 im kR n5 vQ vO vN Cd:Slot):∀(wn:List Bool)(s:Slot),
  bB ⟨P.glob,cF P N,[],false⟩ [a0,a1,a2,a3,a4,a5,a6,a7,a8,a9,im,kR,n5,vQ,s,vO,vN,Cd] (ae 14) (.one 14) [ae 14] (wn.map .bool)=some (.ok<|(wn.filter id).map .bool,[a0,a1,a2,a3,a4,a5,a6,a7,a8,a9,im,kR,n5,vQ,.no,vO,vN,Cd]):=by
 intro wn;induction wn with
 |nil=>intro s;refine O Zy ?_;rw[aL];rfl
 |cons b wn ih=>intro s;have q:=ih<|.fz<|.bool b;refine O Zz ?_;cases b with
  |true=>exact O (show(true::wn).filter id=true::wn.filter id from rfl)<|O Zz<|jS [.cp 1 q] rfl
  |false=>exact O (show(false::wn).filter id=wn.filter id from rfl)<|jS [.cp 1 q] rfl
theorem FN(N:Nat)(a0 a1 a2 a3 a4 a5 a6 a7 a8 a9 im kR n5 vQ vP vO vN:Slot):∀(c:C)(k:Nat)(s:Slot),
  bB ⟨P.glob,cF P N,[],false⟩ [a0,a1,a2,a3,a4,a5,a6,a7,a8,a9,im,kR,n5,vQ,vP,vO,vN,s] (.slc (ae 17) cY rK) (.one 17) [] (yu k c)=some (.ok<|c.map ay,[a0,a1,a2,a3,a4,a5,a6,a7,a8,a9,im,kR,n5,vQ,vP,vO,vN,.no]):=by
 intro c;induction c with
 |nil=>intro k s;exact aL ..
 |cons x c ih=>intro k s;exact O (show yu k (x::c) = .tuple [.str<|lP k,.str x.1,.tuple x.2]::yu (k+1) c from rfl)<|O Zz<|jS [.cp 1<|(ih (k+1)<|.fz<|.tuple [.str<|lP k,.str x.1,.tuple x.2])] rfl
theorem wN(h:∀x∈c,KC x):aI .ne (.list<|c.map ay) (.list<|c.map ay)=some false:=by
 have nd:=u6 h;have dp:=kb λy hy=>by obtain⟨x,hx,rfl⟩:=mem_map.mp hy;exact(h x hx).dep
 have ev:eqvAll (c.map ay) (c.map ay)=true:=by clear nd dp;induction c with
  |nil=>refine O Zy ?_;rw[eqvAll]
  |cons x c ih=>refine O Zz ?_;rw[ud,(h x Zt).self,ih λy hy=>h y<|Zu _ hy];rfl
 have ok:fh (.list<|c.map ay) (.list<|c.map ay)=true:=by unfold fh;refine O (show noDict (.list<|c.map ay)=true from nd)<|O (Y0<|Zg (min_le_left _ _) (show(list<|c.map ay).depth<=64 from(show depthAll (c.map ay)+1<=64 by exact(L1 [depthAll<|List.map ay c] (.p 1 .x) (.c 64) .x (.c 6) rfl dp)))) ?_;rfl
 rw[mn,Bv,YX ok,show eqv (.list<|c.map ay) (.list<|c.map ay)=eqvAll (c.map ay) (c.map ay) by rw[eqv]];refine O ev ?_;rfl
theorem Kf{r:R}:∀{X:List R}{k i:Nat}{M:C},X.length=M.length->X[i]?=some r-> ∃x,(cO fs c k M X)[i]?=some (ig fs (k+i) x r c):=by intro X;induction X with
 |nil=>intro k i M _ h;exact am h
 |cons d X ih=>intro k i M hl h;cases M with
  |nil=>cases hl
  |cons y M=>cases i with
   |zero=>obtain rfl:=aE h;exact⟨y,rfl⟩
   |succ i=>obtain⟨x,e⟩:=ih (k:=k+1) (i:=i) (M:=M) (Y9 hl) h;exact⟨x,by refine O (show k+(i+1)=k+1+i by exact(Zk (L0 [k,i] (.a .x<|.p 1 .y) (.a (.p 1 .x) .y) rfl)<|L0 [k,i] (.a (.p 1 .x) .y) (.a .x<|.p 1 .y) rfl)) ?_;exact e⟩
theorem Eb(N:Nat){X:List R}(hc:∀x∈c,KC x)(hl:X.length=c.length)(hk:∀r∈X,Rk c d r)(a0 a1 a2 a3 a4 a8 a9 im kR n5 vP vO vN Cd:Slot)(hN:2*d+51<N+d):∀(rest:List R)(i:Nat)(s6 yP:Slot),(s6=cS c\/s6 = .fz (.list<|c.map ay))->X.drop i=rest->
  ∃LO,cm ⟨P.glob,cF P<|N+d,[],false⟩ [a0,a1,a2,a3,a4,.fz<|.tuple<|cO fs c 0 c X,s6,.KK<|.list<|X.map aD,a8,a9,im,kR,n5,yP,vP,vO,vN,Cd] (.one 13) Nc [13] (lI i rest.length)=some (.ok .next,[a0,a1,a2,a3,a4,.fz<|.tuple<|cO fs c 0 c X,LO,.KK<|.list<|X.map aD,a8,a9,im,kR,n5,.no,vP,vO,vN,Cd]):=by
 have hF:∀x∈c, ∃l,(cO fs c 0 c X)[dj c x]?=some (.tuple (.str (lP<|dj c x)::l)):=λx hx=>by obtain⟨l,e⟩:=E1 (fs:=fs) (c:=c) (X:=X) (k:=0) (i:=dj c x) (M:=c) hl (by refine O hl ?_;exact AF hx);rw[Y8]at e;exact⟨l,e⟩
 intro rest;induction rest with
 |nil=>intro i s6 yP _ _;exact⟨s6,bb ..⟩
 |cons r rest ih=>
  intro i s6 yP h6 hi;have hd:X[i]?=some r:=by refine O (head?_drop).symm<|O hi ?_;rfl
  have rk:=hk r<|Zs hd;refine aB (Kf (fs:=fs) (c:=c) (X:=X) (k:=0) (i:=i) (M:=c) hl hd) λx hx=>?_;have ix:∀(l:VX)(v:D),l[i]?=some v->bf l (0+(i:Nat))=some v:=λl v h=>by unfold bf;rw[ZR,YX<|ZV _,ZU];exact h
  have e1:=ix _ _ hx;have e2:cW (.list<|X.map aD) (.int<|0+(i:Nat))=some (aD r):=ix _ _ (by refine O ZJ<|O hd ?_;rfl);have sm:=DD (Mw rk).1 (N+d)<|Ze (Mw rk).2 hN;obtain⟨LO,q⟩:=ih (i+1) (.fz<|.list<|c.map ay) (.fz<|.int<|0+(i:Nat)) (.inr rfl) (by refine O tail_drop.symm<|O hi ?_;rfl);refine⟨LO,?_⟩;refine O ZH<|O (show lI i (rest.length+1) = .int (0+(i:Nat))::lI (i+1) rest.length from rfl) ?_;rw[show ig fs (0+i) x r c = .tuple [.str<|lP<|0+i,dq<|(j6 fs x.1).elim [] λf=>og f.1.ps f.1.wn,encM c r] from rfl]at e1;generalize (j6 fs x.1).elim [] (λf=>og f.1.ps f.1.wn)=un at e1;generalize lP (0+i)=nm at e1;generalize (0:Int)+(i:Nat)=j at *;generalize encM c r=IO at *;generalize cO fs c 0 c X=F at *;generalize N+d=K at *;rcases h6 with rfl|rfl
  .exact eM [.d 0 e1,.d 1 e2,.c 0<|(qf hc hF d N r rk),.c 0 sm,.lp 2 q] rfl
  .exact eM [.d 0 e1,.d 1 e2,.c 0<|(qf hc hF d N r rk),.c 0 sm,.lp 2 q] rfl
theorem law_ok(M:List Int)(n:Nat):cF P (n+111) false 43 [yO M]=GI true:=by
 refine er (BG (n+88) M) λUJ VJ Q=>?_;obtain⟨hs,fs,h2,G,cn,ne⟩:=v9 (n+108) M Q.2;cases fs with
 |nil=>exact absurd rfl ne
 |cons f0 mE=>
 have Rx:=G.hd;rw[Zz]at Rx;obtain⟨h0,hr,rfl⟩:∃h0 hr,hs=h0::hr:=⟨_,_,Rx.symm⟩
 have e0:=(List.cons.inj Rx).1;obtain⟨ks,z⟩:=wR (n+108) M (h0.wn.filter id).length<|Zg (G.k2 h0 Zt) (by decide);have u:Us (h0::hr) (f0.1.nm,ks):=⟨⟨h0,Zt,by exact O e0 rfl,z.2.1⟩,z.2.2⟩
 refine er (v4 G cn rfl u) λX c q=>?_;have wk:=q.1;have we:=q.2;have lw:=Jv G (n+10) (yO M) (sH (h0::hr)) (.fz<|.tuple ks) (.fz<|.tuple<|cO (f0::mE) c 0 c X) Wz [] [(f0.1.nm,ks)] X c .no .no .no .no .no wk.go ⟨pH u,Y7 _,λaa h=>by cases h⟩;have hc:∀x∈c,KC x:=λx hx=>(wk.ok.ck.us x hx).kc;obtain⟨LO,le⟩:=Eb (n+90) (fs:=f0::mE) hc wk.len wk.ok.rk (yO M) (sH (h0::hr)) (.fz<|dW (f0::mE)) (.fz<|.dict<|bg (h0::hr)) (.fz<|.tuple ks) .no .no .no .no .no .no .no .no .no (L0 [n] (.p 1<|.p 51<|.m 2<|.c 20) (.p 20<|.p 90 .x) rfl) X 0 (cS c) .no (.inl rfl) rfl;have b1:jm .len [.tuple<|cO (f0::mE) c 0 c X]=some (.fz<|.int c.length):=by rw[jN];show some (Rv.fz<|.int ((cO (f0::mE) c 0 c X).length:Nat))=_;rw[((vy<|Zj wk.len).trans wk.len)]
 have b2:jm .len [.list<|c.map ay]=some (.fz<|.int c.length):=by rw[jN];show some (Rv.fz<|.int ((c.map ay).length:Nat))=_;rw[ZG]
 have b3:jm .len [.list<|(h0.wn.filter id).map .bool]=some (.fz<|.int (h0.wn.filter id).length):=by rw[jN];show some (Rv.fz<|.int (((h0.wn.filter id).map PyData.bool).length:Nat))=_;rw[ZG]
 have ir:b4 .range [.int (c.length:Nat)]=some (lI 0 X.length):=by rw[wk.len,bD,YX ⟨by exact(Ln [length c] (.i (.g<|.c 1000000000)<|.n .x) [] rfl),by show(c.length:Int)<=16777216;exact(Ln [length c] (.i (.n .x)<|.c 16777216) [Gl .x<|.c 2315] rfl wk.ok.ck.le)⟩,ZU,<- yV,<- List.range_eq_range'];rfl
 rw[(rfl:n+10+2*20+60=n+110)]at lw;rw[e0]at lw;generalize cO (f0::mE) c 0 c X=F at *;generalize bg (h0::hr)=sd at *;generalize yu 0 c=TR at *;generalize ((c.length:Nat):Int)=cl at *;generalize (((h0.wn.filter id).length:Nat):Int)=wl at *;exact aG [.c 0<|Q.1,.c 0 h2,.c 0<|(sT (n+109) G.nd G.h5),.cp 3<|(CP (n+110) (yO M) (sH (h0::hr)) (.fz<|dW (f0::mE)) (.KK<|.dict<|bg (h0::hr)) .no .no .no .no .no .no .no .no .no .no .no .no .no h0.wn .no),.v 0 b3,.c 0<|z.1,.c 0<|(Na (n+108) _ _ _ _ _<|we<|n+6),.lp 2 lw,.v 0 b1,.v 0 b2,.b 0<|(u5 c.length),.c 1<|(Oy (n+108) _ _ _ _ _<|we<|n+6),.cp 1<|(FN (n+110) (yO M) (sH (h0::hr)) (.fz<|dW (f0::mE)) (.fz<|.dict<|bg (h0::hr)) (.fz<|.tuple ks) (.fz<|.tuple<|cO (f0::mE) c 0 c X) (cS c) (.KK<|.list<|X.map aD) .no .no .no .no .no .no .no .no .no c 0 .no),.b 0<|(wN hc),.v 1 b1,.l 0 ir,.lp 0 le,.c 0<|(CZ<|n+10)] rfl
end Lq
end
set_option backward.match.sparseCases false
open PySem PySem.W PyProof.Rows Mv
set_option maxHeartbeats 8000000
namespace Lq
theorem defAt:(recsOf Hq.view)[43]?=some Hq.dk.1:=by kernel_rfl
theorem AW(P:Params) :o5 (Hq.K P) (Str.ofString "SINGLES")=some (.ref 126):=by kernel_rfl
theorem At(P:Params) :∃o,(Hq.K P).lookup 126=some o∧o={cls:=.type "tuple",data:=.seq [Value.str ⟨[100,111,119,110].toArray⟩ 347,Value.str ⟨[102,105,114,115,116].toArray⟩ 348,Value.str ⟨[114,101,115,116].toArray⟩ 349,Value.str ⟨[101,109,112,116,121].toArray⟩ 350].toArray}:=⟨_,rfl,by kernel_rfl⟩
theorem N8(P:Params) :o5 (Hq.K P) (Str.ofString "TAME")=some (.ref 169):=by kernel_rfl
theorem Nw(P:Params) :∃o,(Hq.K P).lookup 169=some o∧o={cls:=.type "tuple",data:=.seq [Value.str ⟨[102,105,114,115,116].toArray⟩ 401,Value.str ⟨[114,101,115,116].toArray⟩ 402,Value.str ⟨[100,111,119,110].toArray⟩ 403].toArray}:=⟨_,rfl,by kernel_rfl⟩
theorem Mj:valOf Hq.view (Str.ofString "HEAVIEST")=some (.int 50):=by kernel_rfl
section
variable [Hp]{loose:VT}{qM:ExcName->Option Value}
theorem glsOk(KX:(Hq.K w.params).In B)(EN:∀x,mg x=o5 (Hq.K w.params) x)(T:Top Hq.view loose qM mg mb B)(Cl:LooseAre Hq.lv mg B):∀(k:Nat)(x:Str)(d:D),gls[k]?=some x->P.glob[k]?=some d-> ∃v,mg x=some v/\ ∀(h':Heap)(Z:VQ),(∀a o,B.get? a=some o->h'.get? a=some o)->(∀a o,B.get? a=some o->Z a)->bE h' Z v d:=by
 intro k x d hk cQ
 match k,hk,cQ with
 |0,hk,cQ=>cases hk;cases cQ;exact wK Cl<|.head _
 |1,hk,cQ=>cases hk;cases cQ;exact const_int T Mj
 |2,hk,cQ=>cases hk;cases cQ;refine⟨.ref 126,(EN _).trans<|AW w.params,λh' Z hk hz=>?_⟩;obtain⟨o,e,q⟩:=At w.params;have e:=KX _ _ e;rw[q]at e;exact .tuple (hz _ _ e) (hk _ _ e) (by decide)<|(.cons (.str _ _ (by kernel_rfl) (by decide))<|.cons (.str _ _ (by kernel_rfl) (by decide))<|.cons (.str _ _ (by kernel_rfl) (by decide))<|.cons (.str _ _ (by kernel_rfl) (by decide)) .nil)
 |3,hk,cQ=>cases hk;cases cQ;refine⟨.ref 169,(EN _).trans<|N8 w.params,λh' Z hk hz=>?_⟩;obtain⟨o,e,q⟩:=Nw w.params;have e:=KX _ _ e;rw[q]at e;exact .tuple (hz _ _ e) (hk _ _ e) (by decide)<|(.cons (.str _ _ (by kernel_rfl) (by decide))<|.cons (.str _ _ (by kernel_rfl) (by decide))<|.cons (.str _ _ (by kernel_rfl) (by decide)) .nil)
end
end Lq
end
end Internal
open Internal PySem PySem.W PyProof.Rows Internal.Mv
set_option maxHeartbeats 8000000
set_option tactic.hygienic true in
theorem PySem.Challenge.cw_uf010005_13_holds : PySem.Challenge.rw_uf010005_13.Holds :=
 Hq.hd (by
 intro w s₀ s₁ mg mb G dl fa o pm cd gS dV kV ho hd VF hD UN hg args dh as QY Q7 UL UH Tr;have KX:=kIn_of dl;have Cl:=(Ground.X G).2;refine Ground.open G ?_;intro T B D TE TW
 wrow_args QY Q7 UL UH Tr
 rename_i M hs Ts hL hr vn w4 w3 l vs w0 VI ra w1 r0 hI AK L4 VG;refine enter_call ?_;have EN:=EW KX T.g<|Lq.kG w.params
 letI hp:Hp:=⟨w,s₁.heap,mg,mb⟩
 refine En (hp:=hp) (P:=Lq.P) (nss:=Lq.nss) (f:=43) (n:=111) (M:=M) rfl T TE Lq.chkM Lq.chkR Lq.chk Lq.chkBd Lq.chkF (td T PySem.F.excBase_ValueError Lq.chkC) (Fi KX EN<|Lq.chkA w.params) (Lq.glsOk KX EN T Cl) (by decide) Lq.defAt UN w1 ?_ (by decide) hg ?_ ?_<|Lq.law_ok M 0
 .have:M.length<=63:=by exact(Ln [M.length] (.w .x<|.c 63) [Gi (.n .x)<|.n<|.c 63] rfl<|Int.not_lt.mp L4)
  exact Zg this (by decide)
 .intro cls;rfl
 .wrow_post)
