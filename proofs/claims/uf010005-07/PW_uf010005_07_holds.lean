import PyProof.Rows.All
import OpenK.KWalk
import Open.Tree
import Wide.FinOn
import PyProof.DictStraight
import PySem.PyData
import PyProof.SameEqv
import Wide.Seal
import PyProof.DictRoadsH
import PyProof.Rows.TupTab
import PyProof.P3Eq
import PyProof.Rows.RowHeap
import KE.KEqDict
import KE.KIntText
import PyProof.ZipIter
import PyProof.TupleIter
import PyProof.Rows.ZipGen
import KE.KDictOf
import PyProof.AttrMissSeq
import KE.KRevIter
import PyProof.Cells
import PyProof.DictDisplay
import PyProof.EnumStmt
import PyProof.RaisesMany
import PyProof.ForAny
import PyProof.NsDelKeeps
import PyProof.Rows.OwnQ
import PyProof.ExcClass3
import KE.KTryMore
import PyProof.ExcAttrAll.ValueError
import PySem.Challenge.RW_uf010005_07
set_option backward.match.sparseCases false
set_option linter.defProp false
set_option maxRecDepth 100000
set_option linter.unusedVariables false
set_option linter.unusedSimpArgs false
set_option linter.unusedSectionVars false
set_option Elab.async false
set_option tactic.hygienic false
set_option genSizeOf false
set_option genInjectivity false
set_option genCtorIdx false
set_option bootstrap.genMatcherCode false
namespace Internal
noncomputable section
section
open PySem PyProof.Rows
abbrev Sb:=List PySem.PyData
abbrev Sd:=List PySem.Str
abbrev Se:=Except PySem.Str
abbrev Sg:=List Nat
abbrev Si:=List PySem.Value
abbrev Sj:=List (PySem.PyData×PySem.PyData)
abbrev Sm:=List Int
abbrev Sn:=List PySem.Expr
abbrev So:=Option PySem.Value
abbrev Sp:=List Bool
abbrev Sq:=List (PySem.Str×PySem.Value)
abbrev Sr:=PySem.Value->PySem.Shared->Prop
abbrev Ss:=PySem.Addr->Prop
def aa:=@List.mem_cons_self
def ac:=@List.mem_cons_of_mem
def ae:=@PySem.wpAny_bind
def af:=@Nat.le_trans
def ah:=@List.append_assoc
def ai:=@List.length_map
def aj:=@List.length_append
def ak:=@decide_eq_true
def am:=@List.mem_cons
def ao:=@Bool.and_eq_true_iff
def aq:=@Nat.le_add_right
def au:=@PySem.wpAny_pure
def av:=@List.getElem?_eq_some_iff
def aw:=@List.getElem?_eq_getElem
def ax:=@List.size_toArray
def ay:=@List.map_cons
def az:=@Bool.and_eq_true
def aA:=@decide_eq_false
def aB:=@List.all_eq_true
def aC:=@List.mem_append_left
def aD:=@List.length_cons
def aE:=@List.mem_append_right
def aF:=@of_decide_eq_true
def aG:=@Nat.add_le_add_left
def aH:=@List.mem_map
def aI:=@List.append_nil
def aJ:=@List.mem_singleton
def aK:=@PySem.wpAny_mono
def aL:=@Nat.lt_of_le_of_lt
def aN:=@List.mem_of_getElem?
def aO:=@List.length_range
def aQ:=@Nat.le_refl
def aT:=@Option.map_eq_some_iff
def aU:=@List.lookup_cons
def aV:=@Nat.lt_of_lt_of_le
def aW:=@List.mem_range
def aX:=@Nat.zero_add
def aY:=@List.map_append
def aZ:=@List.map_nil
def ba:=@Nat.zero_le
def bc:=@List.not_mem_nil
def be:=@Nat.succ.inj
def bg:=@List.getD_eq_getElem?_getD
def bh:=@List.nodup_cons
def bl:=@PySem.Heap.get?_push_size
def bn:=@List.getElem?_map
def br:=@PySem.Heap.lt_size
def bF:=@PyProof.Rows.callWith_type
def bG:=@PySem.Calls.spliced_cons
def bJ:=@List.contains_iff_mem
def bK:=@Bool.eq_false_iff
def bM:=@Nat.not_lt
def bP:=@PySem.Heap.get?_push_of_some
def bS:=@PySem.Calls.evalArgs_plain
def bW:=@Nat.ne_of_lt
def bY:=@PySem.wpAny_field
def b3:=@Nat.add_sub_cancel_left
def b8:=@List.sublist_append_right
def b9:=@List.getElem?_append_left
def cc:=@PySem.wpAny_newObj_type
def cj:=@Int.toNat_natCast
def cu:=@List.length_singleton
def cw:=@Nat.add_sub_cancel'
def cy:=@Int.zero_add
def cC:=@decide_eq_true_eq
def cD:=@PySem.Calls.spliced_nil
def cG:=@Nat.le_of_succ_le_succ
def cH:=@Int.natCast_nonneg
def cK:=@List.nil_append
def cQ:=@List.getElem?_append_right
def cR:=@PySem.wpAny_ite_false
def cS:=@List.mem_append
def cU:=@Nat.add_comm
def cW:=@List.getElem?_eq_none_iff
def cZ:=@beq_iff_eq
def de:=@PySem.Obj.data_mapFields
def dg:=@PySem.wpAny_callSpecial?_slot
def dh:=@Nat.succ_le_succ
def dv:=@Nat.add_assoc
def dE:=@Int.add_zero
def dF:=@PySem.Heap.get?_update_other
def dG:=@List.map_congr_left
def dH:=@List.length_pos_iff
def dI:=@Int.toNat_of_nonneg
def dL:=@decide_true
def dM:=@Nat.le_antisymm
def dN:=@List.length_nil
def dO:=@Int.natCast_add
def dX:=@PySem.wpAny_setField_rec
def dY:=@PySem.wpAny_call_entry
def dZ:=@Nat.lt_succ_self
def d4:=@Nat.add_right_comm
def d6:=@PySem.wpAny_holding
def d7:=@Nat.succ_add_eq_add_succ
def ey:=@Nat.add_le_add_right
def eF:=@Nat.lt_succ_of_le
def eJ:=@Nat.le_add_left
def eN:=@List.length_reverse
def eY:=@List.length_take
def fg:=@PySem.wpAny_seqItems
def fh:=@or_false
def fi:=@Nat.sub_add_cancel
def fj:=@PySem.Obj.isFreed_of_fields
def fk:=@List.getElem?_eq_none
def fB:=@PyProof.Rows.Call_Name
def fH:=@Nat.not_succ_le_zero
def fI:=@PySem.Heap.get?_none_of_le
def fJ:=@Bool.not_eq_true'
def fN:=@Nat.lt_irrefl
def fV:=@Nat.add_lt_add_left
def fW:=@PySem.Heap.SameBut.update
def fX:=@Bool.or_eq_true_iff
def gg:=@PySem.Heap.size_push
def gx:=@List.map_map
def gy:=@Bool.false_ne_true
def gz:=@Bool.false_eq_true
def gO:=@List.getElem?_toArray
def gS:=@List.nodup_append
def ic:=@of_eq_false
def ie:=@Prod.mk.inj
def ig:=@PySem.F.slot_tuple_iterator_next
def ii:=@Array.getElem?_eq_some_iff
def iq:=@Nat.ne_of_gt
def ir:=@Nat.lt_trans
def iu:=@List.zipIdx_cons
def iv:=@List.prefix_refl
def iw:=@List.cons_append
def ix:=@List.any_eq_true
def iQ:=@beq_eq_false_iff_ne
def i9:=@Option.isSome_iff_exists
def jb:=@List.of_mem_zip
def jc:=@List.forIn_cons
def jd:=@Int.le_antisymm
def jv:=@Nat.max_le
def jB:=@PySem.Calls.callWith_function
def kh:=@Nat.mul_comm
def ki:=@Nat.lt_succ_of_lt
def kj:=@Nat.le_of_succ_le
def km:=@List.drop_zero
def kq:=@Int.ofNat_lt
def kr:=@Int.ofNat_le
def lr:=@PySem.builtinLookup_eq_fast
def lu:=@PySem.F.slot_int_rmul
def ly:=@PySem.Heap.get?_update_self
def lN:=@Nat.mod_lt
def lO:=@Nat.le_max_right
def lP:=@List.length_drop
def lQ:=@List.getElem_mem
def mK:=@PySem.wpAny_of_eq
def mL:=@List.eq_nil_of_length_eq_zero
def mM:=@PySem.Around.under_plainId
def nq:=@PySem.am_miss_of_fast
def nt:=@Option.some.inj
def nu:=@Nat.not_lt_zero
def ny:=@Nat.min_le_left
def nB:=@Nat.le_max_left
def nQ:=@List.length_flatten
def nR:=@List.getElem?_range
def n8:=@PyProof.Rows.spliced_more
def n9:=@PySem.codeAny_mono
def oa:=@Nat.le_of_lt
def oc:=@Int.mul_zero
def pQ:=@PySem.wpAny_setField
def pR:=@Nat.not_le
def pS:=@List.zip_nil_right
def pU:=@List.zip_cons_cons
def pV:=@Int.not_lt
def pW:=@Int.fmod_eq_emod_of_nonneg
def pX:=@PySem.Calls.Name_function_global
def qB:=@Array.getElem?_eq_getElem
def rr:=@PySem.wpAny_truthy_bool
def rt:=@PySem.wpAny_pyIter_list
def rz:=@PySem.wpAny_Return_some
def rA:=@Nat.le_succ
def rB:=@Nat.le_of_lt_succ
def rC:=@List.reverse_cons
def rD:=@List.getElem?_set
def rE:=@Int.le_refl
end
section
open PySem PySem.W
namespace Ht
section
variable {tb:String->Option Builtin}{p:Program}{w:World}{ui:Nat}{ann:So}
noncomputable def Fx(tb:String->Option Builtin)(p:Program)(w:World)(ui:Nat)(ann:So) :Nat->SharedT->Thread->Option SharedT
 | 0,_,_=>none
 | n+1,s,t=>match through t with
  | true=>some s
  | false=>match stepOk ui ann t with
   | false=>none
   | true=>match stepT (denote tb) p w s t with
    | some (s',t')=>Fx tb p w ui ann n s' t'
    | none=>none
theorem Bc:∀{n:Nat}{s s':SharedT}{t:Thread},Fx tb p w ui ann n s t=some s'->topRun tb p w ui ann n s.abs t=some s'.abs
 | 0,_,_,_,h=>by cases h
 | n+1,s,s',t,h=>by
  have h:(match through t with
  | true=>some s
  | false=>match stepOk ui ann t with
   | false=>none
   | true=>match stepT (denote tb) p w s t with
    | some (s',t')=>Fx tb p w ui ann n s' t'
    | none=>none)=some s':=h
  unfold topRun;cases he:through t with
  | true=>rw[he]at h;cases h;rfl
  | false=>rw[he]at h;cases hk:stepOk ui ann t with
   | false=>rw[hk]at h;cases h
   | true=>rw[hk]at h;cases G:stepT (denote tb) p w s t with
    | none=>rw[G]at h;cases h
    | some r=>obtain⟨bC,RP⟩:=r;rw[G]at h;rw[stepT_spec G];exact Bc h
noncomputable def load:List Obj->BT->Nat->Option BT
 | [],t,_=>some t
 | o::r,t,n=>match ((t.ins n o).get n).isSome with
  | true=>load r (t.ins n o)<|n+1
  | false=>none
theorem xX{life:Life} :∀{l:List Obj}{t t':BT}{n:Nat},load l t n=some t'->absHeap t' (n+l.length) life=⟨((absHeap t n life).objs.toList++l).toArray,life⟩
 | [],t,t',n,h=>by cases h;rw[aI];rfl
 | o::r,t,t',n,h=>by
  have h:(match ((t.ins n o).get n).isSome with
  | true=>load r (t.ins n o)<|n+1
  | false=>none)=some t':=h
  cases hg:((t.ins n o).get n).isSome with
  | false=>rw[hg]at h;cases h
  | true=>
   rw[hg]at h;have:=xX (life:=life) h;rw[absHeap_ins hg]at this;rw[show n+(o::r).length=n+1+r.length by simp[cU,Nat.add_left_comm],this];congr 1;show(((absHeap t n life).objs.push o).toList++r).toArray=_
   rw[Array.toList_push,ah];rfl
def Dm(tb:String->Option Builtin)(p:Program)(w:World)(N:Nat) :Option Shared:=
 match fencedOpening tb p w N with
 | none=>none
 | some gD=>match gD.heap.isNs mainGlobals&&gD.gens.size==0 with
  | false=>none
  | true=>match load gD.heap.objs.toList .nil 0 with
   | none=>none
   | some JI=>match Fx tb p w gD.heap.objs.size (gD.heap.nsMap mainGlobals "__annotations__") N ⟨JI,0 + gD.heap.objs.toList.length,gD.heap.life,gD.gens,gD.drawn,gD.toks,gD.os⟩ (topStub p) with
    | none=>none
    | some s=>match staticsOk (importedModules p.main.body) gD.heap s.abs.heap&&namesBound p s.abs.heap&&gensDone s.abs&&laidKept gD.heap s.abs.heap with
     | true=>some s.abs
     | false=>none
set_option tactic.hygienic true in
theorem HF{N:Nat}{aM:Shared}(h:Dm tb p w N=some aM) :openEnds tb p w N=some aM:=by unfold Dm at h;unfold openEnds;cases hf:fencedOpening tb p w N with
 | none=>rw[hf]at h;cases h
 | some gD=>
  rw[hf]at h;show topFrom tb p w N gD=some aM
  unfold topFrom;dsimp only at h;cases hc:gD.heap.isNs mainGlobals&&gD.gens.size==0 with
  | false=>rw[hc]at h;cases h
  | true=>rw[hc]at h;dsimp only at h |-;cases hl:load gD.heap.objs.toList .nil 0 with
   | none=>rw[hl]at h;cases h
   | some JI=>
    rw[hl]at h;dsimp only at h;split at h
    .cases h
    .rename_i s hr;have hr:=Bc hr;have e:SharedT.abs ⟨JI,0+gD.heap.objs.toList.length,gD.heap.life,gD.gens,gD.drawn,gD.toks,gD.os⟩=gD:=by unfold SharedT.abs;dsimp only;rw[xX hl];rfl
     rw[e]at hr;rw[hr];exact h
end
theorem leftT{p q:Program}{loose:Sd}{Xt:Shared->Bool}{α:Type}{Yf:Shared->α}{Ya:World->α}{N:Nat}{g0:Bool}
  (h:∀w,(Dm treeTable p w N).map (λs=>(openSeen q loose (importedModules p.main.body) Xt g0 s,Yf s))=some (openGood q loose,Ya w)) :LeftO p q loose Xt Yf Ya N g0:=λw=>by
 obtain⟨s,e,e'⟩:=aT.mp<|h w;rw[HF e];exact congrArg some e'
end Ht
end
section
open PySem PySem.W PyProof.Rows
set_option maxHeartbeats 8000000
namespace Hq
abbrev row:=PySem.Challenge.rw_uf010005_07.row
abbrev p:Program:=RowW.prog<|OpenRow.toRowW row
noncomputable def view:Program:= {p with main:= {p.main with body:=[1,2,3,4,5,6,7,8,9,10,12,13,14,15,17,18,19,20,21,22,23,24,26,27,28,29,31,32,33,34,36,37,39,40,41,42,43,44,45,46,47,48,49,50,51,52,53,54,55,56,57,58,59,60,61,62,63,64,65,66].filterMap λi=>p.main.body[i]?}}
noncomputable def loose:Sd:=[Str.ofString "GREAT"]
noncomputable def lv:List (Str × WData):=[(Str.ofString "GREAT",WData.int 1000000000000000000)]
noncomputable abbrev ks(x:String)(n:Nat) :Value:=.str (Str.ofString x) n
abbrev kd(P:Params)(l:List (String × Nat × Value))(n:Nat) :Obj:= {cls:=.type "dict",data:=.dict (l.map λx=> {hash:=PyData.keyHash P (Str.ofString x.1),key:=ks x.1 x.2.1,val:=x.2.2}).toArray n}
abbrev kc(nm:String)(bs m:Si)(i:Nat)(j t:Nat)(sb:Si) :Obj:= {cls:=.type "type",data:=.cls {name:=Str.ofString nm,bases:=bs,mro:=.ref i :: (m ++ [.type "ValueError",.type "Exception",.type "BaseException",.type "object"]),ns:=i - 1,qualname:=Str.ofString nm,subclasses:=sb},slots:=#[some (.ref j),none,some (ks nm t),some (ks nm (t + 8)),some (.builtin "ValueError.__new__"),some (.bool true)]}
abbrev kx(P:Params)(nm:String)(j t:Nat)(n:Int) :Frag:=[(j + 8,kd P [("__module__",t + 7,ks "halfrun.errors" 187),("__firstlineno__",t + 11,.int n (t + 10)),("__static_attributes__",t + 12,.ref (j + 7)),("__doc__",t + 13,.none)] 2),(j + 9,kc nm [.ref 24] [.ref 24] (j + 9) j t [])]
abbrev kt(l:List (String × Nat)) :Obj:= {cls:=.type "tuple",data:=.seq (l.map λx=>ks x.1 x.2).toArray}
def K:Params->Frag:=λP=>[(3,kd P [("__name__",165,ks "law_uf010005_07" 707),("__doc__",166,.none),("__package__",167,.none),("__loader__",168,.builtin "__main__.__loader__#opaque"),("__spec__",169,.none),("__annotations__",170,.ref 6),("__builtins__",171,.ref 4),("__file__",173,ks "/claim/cut.py" 172),("__cached__",174,.none),("HalfError",206,.ref 24),("NoNumber",222,.ref 37),("NoList",238,.ref 49),("NoFirst",254,.ref 61),("NoDown",270,.ref 73),("ByNought",286,.ref 85),("TooGreat",302,.ref 97),("TooLong",318,.ref 109),("NotKept",334,.ref 121),("NoText",350,.ref 133),("GREAT",356,.int 1000000000000000000 355),("HEAVIEST",358,.int 50 357),("room_left",369,.ref 142),("is_value",376,.ref 149),("SINGLES",383,.ref 150),("refuse",390,.ref 157),("fitting",397,.ref 164),("number_done",406,.ref 171),("down",413,.ref 178),("list_done",421,.ref 185),("joined",429,.ref 192),("done",437,.ref 199),("TAME",443,.ref 200),("calls_in",453,.ref 207),("is_tame",461,.ref 214),("keeps",467,.ref 219),("worked_out",478,.ref 226),("Making",572,.ref 281),("worked",586,.ref 292),("left_over",595,.ref 299),("Machine",696,.ref 358),("run",706,.ref 369),("_law_cell_at",716,.ref 376),("_law_next",724,.ref 383),("_law_value",730,.ref 388),("_law_same",739,.ref 395),("_law_weight",745,.ref 400),("_law_fit",752,.ref 407),("_law_counted",761,.ref 414),("_law_taken",769,.ref 421),("_law_done",777,.ref 428),("_law_told",783,.ref 433),("_law_run",792,.ref 440),("_law_word",800,.ref 447),("_law_ran",810,.ref 454),("_law_names",816,.ref 459),("_law_few",825,.ref 466),("_law_tame",838,.ref 473),("_law_parts",852,.ref 480),("_law_call",867,.ref 487),("_law_do",880,.ref 494),("_law_form",893,.ref 501),("_law_heads",899,.ref 506),("_law_program",905,.ref 511),("_law_inputs",916,.ref 518),("_law_sorting",922,.ref 523),("_law_special",940,.ref 530),("_law_drawn",948,.ref 537),("_law_topped",954,.ref 542),("law",960,.ref 547)] 69),(23,kd P [("__module__",196,ks "halfrun.errors" 187),("__firstlineno__",200,.int 2 199),("__static_attributes__",201,.ref 22),("__weakref__",203,.ref 25),("__doc__",204,.none)] 3),(24,kc "HalfError" [.type "ValueError"] [] 24 15 189 [.ref 37,.ref 49,.ref 61,.ref 73,.ref 85,.ref 97,.ref 109,.ref 121,.ref 133])] ++ kx P "NoNumber" 28 207 4 ++ kx P "NoList" 40 223 6 ++ kx P "NoFirst" 52 239 8 ++ kx P "NoDown" 64 255 10 ++ kx P "ByNought" 76 271 12 ++ kx P "TooGreat" 88 287 14 ++ kx P "TooLong" 100 303 16 ++ kx P "NotKept" 112 319 18 ++ kx P "NoText" 124 335 20 ++ [(150,kt [("down",379),("first",380),("rest",381),("empty",382)]),(200,kt [("first",440),("rest",441),("down",442)])]
noncomputable def Pz:List Addr:=[3,23,24,36,37,48,49,60,61,72,73,84,85,96,97,108,109,120,121,132,133,150,200]
theorem K_eq:∀P,Pz=(K P).map (·.1):=λj0_=>by kernel_rfl
abbrev H:Hook:=kHook K Pz K_eq
theorem left:LeftO p view loose (λs=>xlAt view lv s&&recOk (RowW.records<|OpenRow.toRowW row) s) (Hook.obs H) (Hook.val H) 20000:=Ht.leftT λw=>by kernel_rfl
theorem Qf:PySem.Challenge.rw_uf010005_07.wellSaid=true:=by kernel_rfl
end Hq
end
section
open PySem PySem.W PyProof.Rows
set_option maxHeartbeats 8000000
namespace Hq
theorem Rx:(defOf view (OpenRow.toRowW row).name).isSome=true:=by kernel_rfl
abbrev dk:DefRec×List (Str×Expr):=(defOf view (OpenRow.toRowW row).name).get Rx
theorem QI:defOf view row.name=some (dk.1,dk.2):=(Option.some_get Rx).symm
theorem hp:row.prog.theDef row.name=some (dk.1.params,dk.1.body,dk.1.scope):=by kernel_rfl
theorem hk:kwWritten? dk.1.params.kwonlyargs dk.1.params.kw_defaults=some dk.2:=by kernel_rfl
theorem hok:(chainsOk view&&opensWell row.prog&&(frees row.toRowW&&row.within.isEmpty))=true:=by kernel_rfl
theorem OE:row.prog.bare:=⟨rfl,rfl,rfl,rfl,rfl,by decide +kernel⟩
theorem hw:row.toRowW.promised:=by w_witness2
theorem QG:(!row.writes||row.records.isEmpty)=true:=by kernel_rfl
theorem hd(call:WalkO view loose (XL view lv) (Hook.says H) row.toRowW dk.1 dk.2 λf O=>PySem.call f O) :PySem.Challenge.rw_uf010005_07.Holds:=
 holds_law Qf λk1=>holds_open (q:=view) (loose:=loose) (Xt:=λs=>xlAt view lv s&&recOk (RowW.records<|OpenRow.toRowW row) s) (XP:=XL view lv) (Yf:=Hook.obs H) (Ya:=Hook.val H) (YP:=Hook.says H) (N:=20000)
  left (Hook.of H) (Hook.keeps H) (λs e=>xl_of s (ao.mp e).1) XL.keeps QI hp hk (λs e=>recFacts_of (ao.mp e).2) QG k1 hok OE hw call
end Hq
end
section
namespace Mv
open PySem
noncomputable abbrev D:=PyData
noncomputable abbrev Sz:Nat:=16777216
theorem cX{p:Prop}(h:∀SD:Prop,(p->SD)->SD) :p:=h p id
theorem aR{p:α->Prop}{c:Prop}(h:∃a,p a)(k:∀a,p a->c) :c:=h.elim k
theorem kL{p:α->β->Prop}{c:Prop}(h:∃a b,p a b)(k:∀a b,p a b->c) :c:=h.elim λa h=>h.elim<|k a
theorem m5{p:α->β->γ->Prop}{c:Prop}(h:∃a b d,p a b d)(k:∀a b d,p a b d->c) :c:=h.elim λa h=>kL h<|k a
theorem Hy{p:α->β->γ->δ->Prop}{c:Prop}(h:∃a b d e,p a b d e)(k:∀a b d e,p a b d e->c) :c:=h.elim λa h=>m5 h<|k a
@[elab_as_elim] theorem Er{α:Sort u}{a b:α}{M:α->Prop}(h:a=b)(m:M b) :M a:=h▸m
set_option genCtorIdx true in
inductive Slot where | no | fz(d:D) | own(d:D) | tab(V:Sj) | exc(e:Str)
inductive Pl where | var(i:Nat)
set_option genCtorIdx true in
inductive Rv where | fz(d:D) | own(d:D) | pl(p:Pl)
noncomputable abbrev Fm:=List Slot
noncomputable abbrev dc(α:Type):=Option<|Se α×Fm
class Kt(α β:Type) where
 run:α->Fm->dc β
noncomputable def vm{α β:Type}(m:dc α)[k:Kt α β] :dc β:=
 match m with
 | none=>none
 | some (.error e,Y)=>some (.error e,Y)
 | some (.ok a,Y)=>k.run a Y
noncomputable abbrev bI{α β:Type}(m:dc α)(k:α->Fm->dc β) :dc β:=@vm α β m ⟨k⟩
theorem lH(a:α)(Y:Fm)(k:α->Fm->dc β) : @vm α β (some (.ok a,Y)) ⟨k⟩=k a Y:=by rfl
set_option genCtorIdx true in
inductive MA where | add | sub | mul | fdiv | mod | pow
set_option genCtorIdx true in
inductive Cm where | eq | ne | lt | le | gt | ge | isin | nel
set_option genCtorIdx true in
inductive Ty where | tup | int | bool | str
inductive Bi where
 | len | isi (t:Ty) | sum | abs | int | tuple | list | str
 | dzip | dict0 | dict
noncomputable def Bi.loops:Bi->Bool
 | .sum=>true
 | .dzip=>true
 | .dict=>true
 | _=>false
set_option genCtorIdx true in
inductive kZ where | seq | range | zip | enum | rev
inductive ja where | one(i:Nat) | tup(is:Sg)
inductive Ex where
 | lit (d:D)
 | gl (k:Nat)
 | var (i:Nat)
 | pl (p:Pl)
 | tup (es:List Ex)
 | list (es:List Ex)
 | op2 (o:MA) (a b:Ex)
 | neg (a:Ex)
 | not (a:Ex)
 | cmp (o:Cm) (a b:Ex)
 | cmp2 (o p:Cm) (a b c:Ex)
 | bo (j:Bool) (es:List Ex)
 | idx (a i:Ex)
 | slc (a lo hi:Ex)
 | call (f:Nat) (args:List Ex)
 | bi (b:Bi) (args:List Ex)
 | comp (elt:Ex) (t:ja) (it:kZ) (src:List Ex) (conds:List Ex)
 | mcall (f:Nat) (as:Sg) (args:List Ex)
 | tin (i:Nat) (e:Ex)
 | tget (i:Nat) (e:Ex)
 | pop (p:Pl)
 | disp (ks:Sd) (es:List Ex)
 | isx (i:Nat) (yes no:Sd)
 | callw (f:Nat) (args:List Ex) (e:Ex)
 | cnt (i:Nat) (b:Bool)
noncomputable abbrev cT:Ex:=.var 0
noncomputable abbrev d8:Ex:=.var 1
noncomputable abbrev fY:Ex:=.var 2
noncomputable abbrev gA:Ex:=.var 3
noncomputable abbrev iR:Ex:=.var 4
noncomputable abbrev gp:Ex:=.var 5
noncomputable abbrev oh:Ex:=.var 6
noncomputable abbrev yu:Ex:=.var 7
noncomputable abbrev gB:Ex:=.var 8
noncomputable abbrev gi:Ex:=.var 9
noncomputable abbrev dl:Ex:=.var 10
noncomputable abbrev lz:Ex:=.var 11
noncomputable abbrev mP:Ex:=.var 12
noncomputable abbrev oH:Ex:=.var 13
noncomputable abbrev yv:Ex:=.var 14
noncomputable abbrev Jy:Ex:=.var 15
noncomputable abbrev rG:Ex:=.var 16
noncomputable abbrev M7:Ex:=.var 17
noncomputable abbrev M6:Ex:=.var 18
noncomputable abbrev M5:Ex:=.var 19
noncomputable abbrev M4:Ex:=.var 20
inductive St where
 | asg (t:ja) (e:Ex)
 | setI (p:Pl) (i e:Ex)
 | app (p:Pl) (e:Ex)
 | exp (e:Ex)
 | iff (c:Ex) (a b:List St)
 | ret (e:Ex)
 | for_ (t:ja) (it:kZ) (src:List Ex) (body:List St) (SO:Sg)
 | whl (t:Ex) (body:List St) (SO:Sg)
 | new (f:Nat) (as:Sg) (args:List Ex) (body:List St)
 | raise (c:Str)
 | tryx (body:List St) (G:List (Str×Sd×D))
 | tryw (body:List St) (yes:Sd) (i f:Nat)
 | rev (p:Pl)
 | mst (f:Nat) (as rb:Sg) (args:List Ex)
 | tab0 (i:Nat)
 | tset (i:Nat) (k e:Ex)
 | no
noncomputable abbrev fr(i:Nat)(e:Ex):St:=.asg (.one i) e
noncomputable abbrev hs(a b:Ex):Ex:=.cmp .eq a b
noncomputable abbrev sc(a b:Ex):Ex:=.op2 .add a b
noncomputable abbrev SF(a b:Ex):Ex:=.op2 .mod a b
noncomputable abbrev SG(a:List Ex):St:=.ret<|.tup a
noncomputable abbrev SH(a:Int):Ex:=.lit<|.int a
set_option genCtorIdx true in
inductive dU where | next | ret(r:Rv)
noncomputable def uo(a b:Int) :Bool:=decide (a.natAbs<2 ^ 64)||decide (b.natAbs<2 ^ 64)
def y2(a b:Int) :Option Rv:=if uo a b=true then some (.fz<|.int<|a*b) else none
noncomputable def rep(n:Int)(S:List α) :List α:=(List.replicate n.toNat S).flatten
def op2:MA->D->D->Option Rv
 | .add,.int a,.int b=>some<|.fz<|.int<|a+b
 | .add,.str a,.str b=>if a.cps.size+b.cps.size<=Sz then some (.fz<|.str ⟨a.cps++b.cps⟩) else none
 | .add,.tuple a,.tuple b=>if a.length+b.length<=Sz then some (.fz<|.tuple<|a++b) else none
 | .add,.list a,.list b=>if a.length+b.length<=Sz then some (.own<|.list<|a++b) else none
 | .sub,.int a,.int b=>some<|.fz<|.int<|a - b
 | .mul,.int a,.int b=>y2 a b
 | .mul,.str a,.int n=>if -1000000000<=n/\n<=1000000000/\a.cps.size*n.toNat<=Sz then some (.fz<|.str ⟨(rep n a.cps.toList).toArray⟩) else none
 | .mul,.list a,.int n=>if -1000000000<=n/\n<=1000000000/\a.length*n.toNat<=Sz then some (.own<|.list<|rep n a) else none
 | .mul,.tuple a,.int n=>if a.length=1/\2<=n/\n<=1000 then some (.fz<|.tuple<|rep n a) else none
 | .fdiv,.int a,.int b=>if b≠0/\b.natAbs<2 ^ 64 then some (.fz<|.int<|a.fdiv b) else none
 | .mod,.int a,.int b=>if b=0 then none else some (.fz<|.int<|a.fmod b)
 | .pow,.int a,.int n=>if 0<=n/\n<=1000/\a.natAbs<2 ^ 64 then some (.fz<|.int<|a ^ n.toNat) else none
 | _,_,_=>none
mutual
noncomputable def noDict:D->Bool
 | .none | .bool _ | .int _ | .str _=>true
 | .list S | .tuple S=>noDicts S
 | .dict _=>false
noncomputable def noDicts:Sb->Bool
 | []=>true
 | x::S=>noDict x&&noDicts S
end
def mn(a b:D) :Bool:=noDict a&&noDict b&&decide (min a.depth b.depth<=64)
def qU:D->D->Option Bool
 | .int a,.int b=>some<|a==b
 | .str a,.str b=>some<|a.cps.toList==b.cps.toList
 | .bool a,.bool b=>some<|a==b
 | a,b=>if mn a b then some (PyData.eqv a b) else none
def lj(x:D) :Sb->Option Bool
 | []=>some false
 | y::ys=>match qU y x with
  | none=>none
  | some b=>match lj x ys with
   | none=>none
   | some c=>some<|b||c
noncomputable def jq:Sb->Option Sp
 | []=>some []
 | .bool x::r=>(jq r).map (x :: ·)
 | _::_=>none
noncomputable def bU:Sj->Str->Option D
 | (.str k,d)::r,x=>if k=x then some d else bU r x
 | _::r,x=>bU r x
 | [],_=>none
noncomputable def pA:Sj->Str->D->Sj
 | (.str k,d)::r,x,e=>(.str k,if k=x then e else d)::pA r x e
 | p::r,x,e=>p::pA r x e
 | [],_,_=>[]
def f8(l:Sj)(x:Str)(e:D) :Sj:=if (bU l x).isSome then pA l x e else l++[(.str x,e)]
def jH:Sj->Sb->Option (List<|D×D)
 | SK,[]=>some SK
 | SK,.tuple [.str k,v]::r=>jH (f8 SK k v) r
 | _,_::_=>none
def Lm(x:D) :D->Option Bool
 | .tuple S=>if noDict x then lj x S else none
 | .list S=>if noDict x then lj x S else none
 | .dict SN=>match x with
  | .str k=>some (bU SN k).isSome
  | _=>none
 | _=>none
noncomputable def Rt:D->D->Option Bool
 | .int a,.int b=>some<|decide<|a<b
 | _,_=>none
noncomputable def Ru:D->D->Option Bool
 | .int a,.int b=>some<|decide<|a<=b
 | _,_=>none
noncomputable def NR:D->D->Option Bool
 | .list S,.list []=>some<|!xs.isEmpty
 | _,_=>none
def bZ(o:Cm)(a b:D) :Option Bool:=match o with
 | .eq=>qU a b
 | .ne=>(qU a b).map (!·)
 | .lt=>Rt a b
 | .le=>Ru a b
 | .gt=>Rt b a
 | .ge=>Ru b a
 | .isin=>Lm a b
 | .nel=>NR a b
noncomputable def tD:D->Bool
 | .none=>false
 | .bool b=>b
 | .int i=>i != 0
 | .str s=>s.cps.size != 0
 | .list S=>!xs.isEmpty
 | .tuple S=>!xs.isEmpty
 | .dict SN=>!kvs.isEmpty
noncomputable def FX:D->Option D
 | .int a=>some<|.int<|-a
 | _=>none
noncomputable def da(S:List α)(i:Int) :Option α:=if 0<=i then S[i.toNat]? else none
def jE:D->D->Option D
 | .list S,.int i=>da S i
 | .tuple S,.int i=>da S i
 | .str s,.int i=>(da s.cps.toList i).map λc=>.str ⟨#[c]⟩
 | .dict SN,.str k=>bU SN k
 | _,_=>none
noncomputable def Qc:Sb->Option Rv
 | _::V=>some<|.fz<|.tuple V
 | []=>none
def vE:D->D->D->Option Rv
 | .tuple V,.int i,.none=>if i=1 then Qc V else if 1<=i/\i<=V.length then some (.fz<|.tuple<|V.drop i.toNat) else none
 | .tuple V,.none,.int j=>if 0<=j/\j<V.length then some (.fz<|.tuple<|V.take j.toNat) else none
 | _,_,_=>none
noncomputable def o8:Ty->D->Bool
 | .tup,.tuple _=>true
 | .int,.int _=>true
 | .int,.bool _=>true
 | .bool,.bool _=>true
 | .str,.str _=>true
 | _,_=>false
noncomputable def Gn:D->Option Nat
 | .list S=>some S.length
 | .tuple S=>some S.length
 | _=>none
noncomputable def gT:Sb->Sb->Sb
 | x::S,z::zs=>.tuple [x,z]::gT S zs
 | _,_=>[]
noncomputable def mr:Nat->Sb->Sb
 | _,[]=>[]
 | k,x::S=>.tuple [.int k,x]::mr (k+1) S
noncomputable def jR(n:Nat) :Sg:=(Nat.toDigits 10 n).map Char.toNat
def uX:Sd->Sb->Sj
 | k::ks,d::V=>(.str k,d)::uX ks V
 | _,_=>[]
mutual
noncomputable def iX:D->Bool
 | .int _ | .str _=>true
 | .tuple S=>keyDs S
 | _=>false
noncomputable def keyDs:Sb->Bool
 | []=>true
 | x::S=>iX x&&keyDs S
end
def iD:D->Bool
 | .tuple S=>keyDs S&&decide (PyData.depthAll S<8)
 | _=>false
noncomputable def dP(k:D) :Sj->Option D
 | []=>none
 | p::r=>if PyData.eqv p.1 k=true then some p.2 else dP k r
noncomputable def vz:Int->Sb->Option D
 | a,[]=>some<|.int a
 | a,.int b::r=>vz (a+b) r
 | _,_::_=>none
noncomputable def Bj:D->Option D
 | .list S=>match S.getLast? with
  | some d=>some<|.tuple [.list S.dropLast,d]
  | none=>none
 | _=>none
noncomputable def NK:D->Option (Sb×D)
 | .tuple [.list ys,d]=>some (ys,d)
 | _=>none
noncomputable def NI:D->Option D
 | .list S=>some<|.list S.reverse
 | _=>none
def pI:Bi->Sb->Option Rv
 | .len,[a]=>(Gn a).map λ(n:Nat)=>.fz<|.int n
 | .isi t,[a]=>some<|.fz<|.bool<|o8 t a
 | .sum,[.list S]=>(vz 0 S).map .fz
 | .abs,[.int a]=>some<|.fz<|.int a.natAbs
 | .int,[.bool b]=>some<|.fz<|.int (if b then 1 else 0)
 | .tuple,[.list S]=>some<|.fz<|.tuple S
 | .tuple,[.tuple S]=>some<|.fz<|.tuple S
 | .list,[.tuple S]=>some<|.own<|.list S
 | .str,[.int<|.ofNat n]=>if n<10 ^ 18/\(jR n).length<=20 then some (.fz<|.str ⟨(jR n).toArray⟩) else none
 | .dict0,[]=>some<|.own<|.dict []
 | .dict,[.list ps]=>if ps.length<=1000 then(jH [] ps).map λSN=>.own (.dict SN) else none
 | .dzip,[.list ks,.tuple O]=>if ks.length<=1000 then(jH []<|gT ks O).map λSN=>.own (.dict SN) else none
 | .dzip,[.tuple ks,.tuple O]=>if ks.length<=1000 then(jH []<|gT ks O).map λSN=>.own (.dict SN) else none
 | .dzip,[.tuple ks,.list O]=>if ks.length<=1000 then(jH []<|gT ks O).map λSN=>.own (.dict SN) else none
 | _,_=>none
def DI:D->Bool->Option Rv
 | .list S,b=>(jq S).map λbs=>.fz<|.int (bs.count b:Nat)
 | _,_=>none
noncomputable def ji(a:Int)(n:Nat) :Sb:=(List.range n).map λ(k:Nat)=>.int<|a+k
def di:kZ->Sb->Option Sb
 | .seq,[.list S]=>some S
 | .seq,[.tuple S]=>some S
 | .range,[.int n]=>if -1000000000<=n/\n<=Sz then some (ji 0 n.toNat) else none
 | .zip,[.tuple S,.tuple zs]=>some<|gT S zs
 | .enum,[.list S]=>some<|mr 0 S
 | .rev,[.tuple S]=>some S.reverse
 | _,_=>none
noncomputable def IV(Y:Fm) :Pl->Option D
 | .var i=>match Y[i]? with
  | some (.fz d)=>some d
  | some (.own d)=>some d
  | _=>none
noncomputable def Slot.live:Slot->Bool
 | .no=>false
 | .exc _=>false
 | _=>true
noncomputable def lC(Y:Fm) :Pl->Bool
 | .var i=>match Y[i]? with
  | some sl=>sl.live
  | none=>false
noncomputable def iU(Y:Fm) :Pl->Option D
 | .var i=>match Y[i]? with
  | some (.own d)=>some d
  | _=>none
noncomputable def lZ(Y:Fm)(p:Pl)(d:D) :Fm:=match p with
 | .var i=>Y.set i<|.own d
def gV(Y:Fm) :Rv->Option D
 | .fz d=>some d
 | .own d=>some d
 | .pl p=>IV Y p
noncomputable def gU:Rv->Option D
 | .fz d=>some d
 | .own d=>some d
 | .pl _=>none
def nU(Y:Fm) :List Rv->Option Sb
 | []=>some []
 | r::rs=>match gV Y r,nU Y rs with
  | some d,some V=>some (d::V)
  | _,_=>none
def gE:List Rv->Option Sb
 | []=>some []
 | r::rs=>match gU r,gE rs with
  | some d,some V=>some (d::V)
  | _,_=>none
noncomputable def clr(Y:Fm) :Sg->Fm
 | []=>Y
 | i::is=>clr (Y.set i .no) is
noncomputable def qw(pin:Sg)(Y:Fm) :Sg->Sb->Option Fm
 | [],[]=>some Y
 | i::is,d::V=>if pin.contains i then none else qw pin (Y.set i<|.fz d) is V
 | _,_=>none
def asgT(pin:Sg)(Y:Fm)(t:ja)(r:Rv) :Option Fm:=match t with
 | .one i=>if pin.contains i then none else match r with
  | .fz d=>some<|Y.set i<|.fz d
  | .own d=>some<|Y.set i<|.own d
  | .pl _=>none
 | .tup is=>match gU r with
  | some (.tuple V)=>qw pin Y is V
  | _=>none
noncomputable def bX:ja->Sg
 | .one i=>[i]
 | .tup is=>is
noncomputable def Pb{α β:Type}(cl:Sg)(m:dc α)[k:Kt α β] :dc β:=
 match m with
 | none=>none
 | some (.error e,Y)=>some (.error e,clr Y cl)
 | some (.ok a,Y)=>k.run a Y
noncomputable abbrev va{α β:Type}(cl:Sg)(m:dc α)(k:α->Fm->dc β) :dc β:=@Pb α β cl m ⟨k⟩
noncomputable def fG(Y:Fm) :List Rv->Option (List Slot)
 | []=>some []
 | r::rs=>match (match r with
   | .fz d=>some<|Slot.fz d
   | .own d=>some<|.fz d
   | .pl (.var i)=>(match Y[i]? with
    | some (.fz d)=>some<|.fz d
    | some (.own d)=>some<|.own d
    | _=>none)),fG Y rs with
  | some s,some ss=>some (s::ss)
  | _,_=>none
noncomputable def Slot.lent:Slot->Bool
 | .fz _=>false
 | .no=>false
 | .exc _=>false
 | _=>true
noncomputable def gF:List Rv->Sg
 | []=>[]
 | .pl (.var i)::rs=>i::gF rs
 | _::rs=>gF rs
noncomputable def f9(Y:Fm) :List Rv->List Slot->List Slot->Fm
 | r::rs,s::ss,outs=>if s.lent then(match outs with
   | o::os=>(match r with
    | .pl (.var i)=>f9 (Y.set i o) rs ss os
    | _=>f9 Y rs ss os)
   | []=>Y) else f9 Y rs ss outs
 | _,_,_=>Y
noncomputable def lE:List Slot->Fm->List Slot
 | [],_=>[]
 | s::ss,Y=>if s.lent then Y.headD .no::lE ss Y.tail else lE ss Y.tail
noncomputable def fA:Nat->List Slot->Sg
 | _,[]=>[]
 | k,s::ss=>if s.lent then k::fA (k+1) ss else fA (k+1) ss
noncomputable def jz(Y:Fm)(as:Sg) :List Slot:=as.map λi=>(Y[i]?).getD .no
noncomputable def f6(Y:Fm) :Sg->List Slot->Fm
 | [],_=>Y
 | _::_,[]=>Y
 | i::is,s::ss=>f6 (Y.set i s) is ss
def jP(na:Nat)(args:List Slot)(Y:Fm) :List Slot:=jz Y (List.range na)++lE (args.drop na) (Y.drop na)
def fQ(na:Nat)(rb:Sg)(args:List Slot) :Sg:=((List.range na).filter λk=>!rb.contains k)++fA na (args.drop na)
noncomputable def PL:Se Rv->Bool
 | .ok (.fz .none)=>true
 | _=>false
noncomputable def nx(as:Sg) :Sg:=(as.getLast?.getD 0+1)::as
noncomputable def iJ(as:Sg) :List Slot:=as.map λj0_=>.no
structure gR where
 glob:Sb
 call:Nat->List Slot->Option (Se Rv×List Slot)
 pin:Sg
 hd:Bool
 word:Nat->Str->Option D
noncomputable def Fa(m:Fm->dc dU)(k:dU)(Y:Fm) :dc dU:=match k with
 | .next=>m Y
 | .ret r=>some (.ok<|.ret r,Y)
noncomputable def QT(r:Option D)(rs:Sb)(Y:Fm) :dc Sb:=match r with
 | none=>some (.ok rs,Y)
 | some x=>some (.ok (x::rs),Y)
def u4[f:Kt D (Option D)](cl:Sg) :Sb->Fm->dc Sb
 | [],Y=>some (.ok [],clr Y cl)
 | d::V,Y=>bI (f.run d<|clr Y cl) λr Y=>bI (u4 (f:=f) cl V Y)<|QT r
def CL[f:Kt D dU](cl:Sg) :Sb->Fm->dc dU
 | [],Y=>some (.ok .next,clr Y cl)
 | d::V,Y=>bI (f.run d<|clr Y cl)<|Fa<|CL (f:=f) cl V
def EF[t:Kt Unit Bool][f:Kt Unit dU](cl:Sg) :Nat->Fm->dc dU
 | 0,_=>none
 | n+1,Y=>bI (t.run ()<|clr Y cl) λb Y=>match b with
  | true=>bI (f.run () Y)<|Fa<|EF (t:=t) (f:=f) cl n
  | false=>some (.ok .next,Y)
open Classical in
noncomputable def IN(f:Nat->dc dU) :dc dU:=if h:∃n o,f n=some o then f h.choose else none
noncomputable def mo{α β:Type}(x:Option α)(g:α->dc β) :dc β:=match x with
 | none=>none
 | some a=>g a
noncomputable def FR{α:Type}(Y:Fm) :Option α->dc α
 | none=>none
 | some a=>some (.ok a,Y)
def u7(c:gR)(f:Nat)(as:Sg)(rs:List Rv)(Y:Fm) :dc Rv:=
 if c.hd=true then none else mo (fG Y rs) λss=>if (as++gF rs).Nodup then mo (c.call f<|jz Y as++ss) λo=>
  bI (some (o.1,f9 (f6 Y as o.2) rs ss<|o.2.drop as.length)) λr Y=>mo (gU r) λj0_=>some (.ok r,Y) else none
noncomputable def NL:Rv->Option D
 | .own d=>some d
 | _=>none
def yn(c:gR)(f:Nat)(rs:List Rv)(r:Rv)(Y:Fm) :dc Rv:=
 if c.hd=true then none else mo (gE rs) λV=>mo (NL r) λd=>mo (c.call f<|V.map .fz++[.own d]) λo=>bI (some (o.1,Y)) λr Y=>mo (gU r) λj0_=>some (.ok r,Y)
noncomputable def oO(o:Option Slot) :Option (List<|D×D):=match o with
 | some (.tab V)=>some V
 | _=>none
noncomputable def Bt(Y:Fm) :Option Rv->dc Rv
 | none=>none
 | some (.fz d)=>some (.ok<|.fz d,Y)
 | some (.own d)=>some (.ok<|.own d,Y)
 | some (.pl _)=>none
theorem N4{l:List α}(h:l.length=1) :∃a,l=[a]:=by cases l with
 | nil=>exact nomatch h
 | cons a l=>cases l with
  | nil=>exact⟨a,rfl⟩
  | cons b l=>exact nomatch be h
theorem N3{l:List α}(h:l.length=2) :∃a b,l=[a,b]:=by cases l with
 | nil=>exact nomatch h
 | cons a l=>exact aR (N4<|be h) λb e=>⟨a,b,congrArg _ e⟩
theorem B3{l:List α}(h:l.length=3) :∃a b c,l=[a,b,c]:=by cases l with
 | nil=>exact nomatch h
 | cons a l=>exact kL (N3<|be h) λb c e=>⟨a,b,c,congrArg _ e⟩
theorem bz{p:Prop}(h:none=some r) :p:=nomatch h
theorem bO(h:some a=some r) :a=r:=nt h
theorem ky{a b:α}(h:(Except.ok a:Except ε α) = .ok b) :a=b:=Except.ok.inj h
theorem LL{e:ε}{p:Prop}(h:(Except.ok a:Except ε α) = .error e) :p:=nomatch h
theorem on{e:ε}{p:Prop}(h:(Except.error e:Except ε α) = .ok a) :p:=nomatch h
theorem Qn{a b:α}(h:some ((Except.ok a:Se α),f)=some (.ok b,g)) :a=b/\f=g:=⟨ky (ie<|bO h).1,(ie<|bO h).2⟩
theorem gQ{c:Prop}[Decidable c](h:(if c then some a else none)=some r) :c/\a=r:=by
 by_cases q:c
 .rw[if_pos q]at h;exact⟨q,bO h⟩
 .rw[if_neg q]at h;exact bz h
theorem Cv{c:Prop}[Decidable c](h:(if c then a else none)=some r) :c/\a=some r:=by
 by_cases q:c
 .rw[if_pos q]at h;exact⟨q,h⟩
 .rw[if_neg q]at h;exact bz h
theorem pZ{c:Prop}[Decidable c](h:(if c then none else a)=some r) :¬c/\a=some r:=by
 by_cases q:c
 .rw[if_pos q]at h;exact bz h
 .rw[if_neg q]at h;exact⟨q,h⟩
theorem cE{x:Option α}(h:mo x g=some o) :∃a,x=some a/\g a=some o:=by cases x with
 | none=>exact bz h
 | some a=>exact⟨a,rfl,h⟩
theorem BM(a:α)(g:α->dc β) :mo (some a) g=g a:=rfl
theorem xM{x:Option α}{u:α->β}(h:FR Y (x.map u)=some o) :∃a,x=some a/\o=(.ok<|u a,Y):=by cases x with
 | none=>exact bz h
 | some a=>exact⟨a,rfl,(bO h).symm⟩
theorem ff{p:Prop}(h:true=false) :p:=nomatch h
theorem tf{p:Prop}(h:false=true) :p:=nomatch h
theorem PM{c:Prop}[Decidable c](h:(if c then none else some a)=some r) :¬c/\a=r:=by
 by_cases q:c
 .rw[if_pos q]at h;exact bz h
 .rw[if_neg q]at h;exact⟨q,bO h⟩
noncomputable def On(s:Option Slot)(yes no:Sd) :Option Bool:=match s with
 | some (.exc e)=>if yes.contains e=true then some true else if no.contains e=true then some false else none
 | _=>none
noncomputable def JF(s:Option Slot)(Y:Fm)(i:Nat) :dc Rv:=match s with
 | some (.fz d)=>some (.ok<|.fz d,Y)
 | some (.own d)=>some (.ok<|.fz d,Y.set i<|.fz d)
 | _=>none
noncomputable def Kx(r:Rv)(Y:Fm) :dc dU:=match r with
 | .pl _=>none
 | r=>some (.ok<|.ret r,Y)
def Mo(o:Option D)(Y:Fm)(p:Pl)(d:D) :dc dU:=match o with
 | some (.list S)=>if S.length<Sz then some (.ok .next,lZ Y p<|.list<|S++[d]) else none
 | _=>none
def NT(d:D) :Option Rv:=(FX d).map .fz
def KU(d:D) :Option Rv:=some<|.fz<|.bool<|!tD d
def Ib(o:Cm)(d e:D) :Option Rv:=(bZ o d e).map λb=>.fz<|.bool b
def Ox(d e:D) :Option Rv:=(jE d e).map .fz
abbrev un(a:Fm->dc Rv)(f:D->Option Rv)(Y:Fm) :dc Rv:=bI (a Y) λx Y=>mo (gV Y x) λd=>Bt Y<|f d
abbrev bin(a b:Fm->dc Rv)(f:D->D->Option Rv)(Y:Fm) :dc Rv:=bI (a Y) λx Y=>bI (b Y) λy Y=>mo (gV Y x) λd=>mo (gV Y y) λe=>Bt Y<|f d e
abbrev Rl(a b c:Fm->dc Rv)(f:D->D->D->Option Rv)(Y:Fm) :dc Rv:=bI (a Y) λx Y=>bI (b Y) λy Y=>bI (c Y) λz Y=>mo (gV Y x) λd=>mo (gV Y y) λe=>mo (gV Y z) λg=>Bt Y<|f d e g
abbrev ar(es:Fm->dc (List Rv))(f:Sb->Rv)(Y:Fm) :dc Rv:=bI (es Y) λrs Y=>FR Y<|(gE rs).map f
abbrev ad(es:Fm->dc (List Rv))(f:Sb->Option Rv)(Y:Fm) :dc Rv:=bI (es Y) λrs Y=>mo (nU Y rs) λV=>Bt Y<|f V
mutual
noncomputable def ev(c:gR) :Ex->Fm->dc Rv
 | .lit d,Y=>some (.ok<|.fz d,Y)
 | .gl k,Y=>mo c.glob[k]? λd=>some (.ok<|.fz d,Y)
 | .var i,Y=>JF Y[i]? Y i
 | .pl p,Y=>if lC Y p then some (.ok<|.pl p,Y) else none
 | .tup es,Y=>ar (evs c es) (λV=>.fz<|.tuple V) Y
 | .list es,Y=>ar (evs c es) (λV=>.own<|.list V) Y
 | .op2 o a b,Y=>bin (ev c a) (ev c b) (op2 o) Y
 | .neg a,Y=>un (ev c a) NT Y
 | .not a,Y=>un (ev c a) KU Y
 | .cmp o a b,Y=>bin (ev c a) (ev c b) (Ib o) Y
 | .cmp2 o p a b e,Y=>bI (ev c a Y) λx Y=>bI (ev c b Y) λy Y=>mo (gU x) λd=>mo (gU y) λd'=>mo (bZ o d d') λt=>if t=true then bI (ev c e Y) λz Y=>mo (gU z) λd''=>FR Y ((bZ p d' d'').map λb=>.fz<|.bool b)
    else some (.ok<|.fz<|.bool false,Y)
 | .bo j es,Y=>evB c j es Y
 | .idx a i,Y=>bin (ev c a) (ev c i) Ox Y
 | .slc a lo hi,Y=>Rl (ev c a) (ev c lo) (ev c hi) vE Y
 | .call f args,Y=>bI (evs c args Y) λrs Y=>u7 c f [] rs Y
 | .callw f args e,Y=>bI (evs c args Y) λrs Y=>bI (ev c e Y) λr Y=>yn c f rs r Y
 | .mcall f as args,Y=>bI (evs c args Y) λrs Y=>u7 c f as rs Y
 | .tin i e,Y=>bI (ev c e Y) λr Y=>mo (gU r) λk=>mo (oO Y[i]?) λV=>if iD k then some (.ok<|.fz<|.bool (dP k V).isNone,Y) else none
 | .tget i e,Y=>bI (ev c e Y) λr Y=>mo (gU r) λk=>mo (oO Y[i]?) λV=>if iD k then FR Y ((dP k V).map .fz) else none
 | .pop p,Y=>mo (iU Y p) λo=>mo (Bj o) λq=>mo (NK q) λx=>some (.ok<|.fz x.2,lZ Y p<|.list x.1)
 | .cnt i b,Y=>un (λY=>if lC Y (.var i) then some (.ok<|.pl<|.var i,Y) else none) (λd=>DI d b) Y
 | .isx i yes no,Y=>mo (On Y[i]? yes no) λb=>some (.ok<|.fz<|.bool b,Y)
 | .disp ks es,Y=>ar (evs c es) (λV=>.own<|.dict<|uX ks V) Y
 | .bi b args,Y=>if (c.hd&&b.loops)=true then none else ad (evs c args) (pI b) Y
 | .comp elt t it src conds,Y=>if c.hd=true then none else bI (evs c src Y) λrs Y=>mo (gE rs) λV=>mo (di it V) λSJ=>
   va (bX t) (u4 (f:=⟨λd Y=>mo (asgT c.pin Y t<|.fz d) λY=>bI (evConds c conds Y) λb Y=>if b then bI (ev c elt Y) λr Y=>FR Y ((gU r).map some) else some (.ok none,Y)⟩) (bX t) SJ Y)
     λV Y=>some (.ok<|.own<|.list V,Y)
noncomputable def evs(c:gR) :List Ex->Fm->dc (List Rv)
 | [],Y=>some (.ok [],Y)
 | e::es,Y=>bI (ev c e Y) λr Y=>bI (evs c es Y) λrs Y=>some (.ok (r::rs),Y)
noncomputable def evB(c:gR)(j:Bool) :List Ex->Fm->dc Rv
 | [],_=>none
 | e::es,Y=>bI (ev c e Y) λr Y=>mo (gU r) λd=>match es with
   | []=>some (.ok r,Y)
   | _::_=>if tD d=j then evB c j es Y else some (.ok r,Y)
noncomputable def evConds(c:gR) :List Ex->Fm->dc Bool
 | [],Y=>some (.ok true,Y)
 | e::es,Y=>bI (ev c e Y) λr Y=>mo (gV Y r) λd=>if tD d then evConds c es Y else some (.ok false,Y)
end
noncomputable def KG:Option D->Bool
 | some (.list _)=>true
 | _=>false
noncomputable def ja.isTup:ja->Bool
 | .one _=>false
 | .tup _=>true
def AW:D->D->D->Option D
 | .dict SN,.str k,d=>if SN.length<Sz then some (.dict<|f8 SN k d) else none
 | .list S,.int k,d=>if 0<=k/\k.toNat<S.length then some (.list<|S.set k.toNat d) else none
 | _,_,_=>none
noncomputable def Hx(e:Str) :List (Str×Sd×D)->Fm->dc dU
 | [],_=>none
 | p::G,Y=>if p.2.1.contains e then some (.ok<|.ret<|.fz p.2.2,Y) else Hx e G Y
noncomputable def PN(c:gR)(e:Str)(yes:Sd)(i f:Nat)(Y:Fm) :dc dU:=
 if yes.contains e=true/\c.pin.contains i=false then mo (c.word f e) λd=>some (.ok<|.ret<|.fz<|.tuple [.bool false,d],Y.set i .no) else none
mutual
noncomputable def jF(c:gR) :St->Fm->dc dU
 | .asg t e,Y=>if (c.hd&&t.isTup)=true then none else bI (ev c e Y) λr Y=>mo (asgT c.pin Y t r) λY=>some (.ok .next,Y)
 | .setI p i e,Y=>bI (ev c e Y) λr Y=>if (iU Y p).isSome then bI (ev c i Y) λk Y=>mo (gU r) λd=>mo (gU k) λk=>mo (iU Y p) λo=>mo (AW o k d) λo'=>some (.ok .next,lZ Y p o')
  else none
 | .app p e,Y=>if KG (iU Y p) then bI (ev c e Y) λr Y=>mo (gU r) λd=>Mo (iU Y p) Y p d
  else none
 | .exp e,Y=>bI (ev c e Y) λj0_ Y=>some (.ok .next,Y)
 | .iff t a b,Y=>bI (ev c t Y) λx Y=>mo (gV Y x) λd=>if tD d then exSs c a Y else exSs c b Y
 | .ret e,Y=>bI (ev c e Y) λr Y=>Kx r Y
 | .for_ t it src body SO,Y=>if c.hd=true then none else bI (evs c src Y) λrs Y=>mo (gE rs) λV=>mo (di it V) λSJ=>CL (f:=⟨λd Y=>mo (asgT c.pin Y t<|.fz d) λY=>exSs c body Y⟩) SO SJ Y
 | .whl t body SO,Y=>IN λn=>EF (t:=⟨λj0_ Y=>bI (ev c t Y) λr Y=>mo (gV Y r) λd=>some (.ok<|tD d,Y)⟩) (f:=⟨λj0_ Y=>exSs c body Y⟩) SO n Y
 | .no,_=>none
 | .rev p,Y=>mo (iU Y p) λo=>mo (NI o) λo'=>some (.ok .next,lZ Y p o')
 | .mst f as rb args,Y=>bI (evs c args Y) λrs Y=>if rb.any (c.pin.contains ·) then none else bI (u7 c f as rs Y) λj0_ Y=>some (.ok .next,Y)
 | .new f as args body,Y=>if c.hd=true then none else bI (evs c args Y) λrs Y=>mo (gE rs) λV=>mo (c.call f<|iJ as++V.map .fz) λo=>if PL o.1 then mo (exSs c body<|f6 (clr Y<|nx as) as o.2) λx=>some (x.1,clr x.2<|nx as) else none
 | .raise k,Y=>if c.hd=true then none else some (.error k,Y)
 | .tryx body G,Y=>match exSs c body Y with
  | none=>none
  | some (.ok k,Y)=>some (.ok k,Y)
  | some (.error e,Y)=>Hx e G Y
 | .tryw body yes i f,Y=>if c.hd=true then none else match exSs c body Y with
  | none=>none
  | some (.ok k,Y)=>some (.ok k,Y)
  | some (.error e,Y)=>PN c e yes i f Y
 | .tab0 i,Y=>if c.pin.contains i then none else some (.ok .next,Y.set i<|.tab [])
 | .tset i k e,Y=>bI (ev c e Y) λr Y=>bI (ev c k Y) λx Y=>mo (gU r) λd=>mo (gU x) λx=>mo (oO Y[i]?) λV=>if iD x=true/\dP x V=none/\V.length<Sz then some (.ok .next,Y.set i<|.tab<|V++[(x,d)]) else none
noncomputable def exSs(c:gR) :List St->Fm->dc dU
 | [],Y=>some (.ok .next,Y)
 | s::ss,Y=>bI (jF c s Y)<|Fa<|exSs c ss
end
structure Fn where
 np:Nat
 nv:Nat
 body:List St
 na:Nat
 rb:Sg
structure Pr where
 glob:Sb
 fns:List Fn
def CV(na:Nat)(args:List Slot)(m:dc dU) :Option (Se Rv×List Slot):=
 match m with
 | none=>none
 | some (.error e,Y)=>some (.error e,jP na args Y)
 | some (.ok .next,Y)=>some (.ok<|.fz .none,jP na args Y)
 | some (.ok<|.ret r,Y)=>some (.ok r,jP na args Y)
def bT(P:Pr)(f:Nat)(e:Str) :Option D:=match P.fns[f]? with
 | none=>none
 | some fn=>if fn.np=1 then(match exSs ⟨P.glob,λj0_ j1_=>none,fQ fn.na fn.rb [.exc e],true,λj0_ j1_=>none⟩ fn.body (.exc e::List.replicate (fn.nv - 1) .no) with
  | some (.ok<|.ret<|.fz d,_)=>some d
  | _=>none) else none
def cF(P:Pr) :Nat->Nat->List Slot->Option (Se Rv×List Slot)
 | 0,_,_=>none
 | n+1,f,args=>match P.fns[f]? with
  | none=>none
  | some fn=>if args.length=fn.np then CV fn.na args (exSs ⟨P.glob,cF P n,fQ fn.na fn.rb args,false,bT P⟩ fn.body<|args++List.replicate (fn.nv - fn.np) .no) else none
end Mv
end
section
namespace Mv
inductive NE where | v(i:Nat) | c(n:Nat) | a(x y:NE) | m(k:Nat)(x:NE)
inductive IE where | v(i:Nat) | c(z:Int) | n(x:NE) | a(x y:IE) | s(x y:IE) | g(x:IE) | m(k:Int)(x:IE)
noncomputable abbrev NE.x:NE:=.v 0
noncomputable abbrev NE.y:NE:=.v 1
noncomputable abbrev NE.z:NE:=.v 2
noncomputable abbrev NE.u:NE:=.v 3
noncomputable abbrev IE.x:IE:=.v 0
noncomputable abbrev IE.y:IE:=.v 1
noncomputable abbrev IE.z:IE:=.v 2
noncomputable abbrev IE.u:IE:=.v 3
noncomputable abbrev NE.p(n:Nat)(x:NE) :NE:=.a x<|.c n
noncomputable abbrev IE.p(n:Int)(x:IE) :IE:=.a x<|.c n
noncomputable def Ph:Sg->Nat->Nat
 | [],_=>0
 | x::_,0=>x
 | _::l,i+1=>Ph l i
noncomputable def Pj:Sm->Nat->Int
 | [],_=>0
 | x::_,0=>x
 | _::l,i+1=>Pj l i
def NE.d(ns:Sg) :NE->Nat
 | .v i=>Ph ns i
 | .c n=>n
 | .a x y=>x.d ns+y.d ns
 | .m k x=>k*x.d ns
def IE.d(ns:Sg)(is:Sm) :IE->Int
 | .v i=>Pj is i
 | .c z=>z
 | .n x=>((x.d ns:Nat) :Int)
 | .a x y=>x.d ns is+y.d ns is
 | .s x y=>x.d ns is - y.d ns is
 | .g x=>- x.d ns is
 | .m k x=>k*x.d ns is
noncomputable def rK:Sm->Sm->Sm
 | [],l=>l
 | l,[]=>l
 | x::l,y::r=>(x+y)::rK l r
noncomputable def tL(k:Int)(l:Sm) :Sm:=l.map (k * ·)
noncomputable def unit:Nat->Sm
 | 0=>[1]
 | i+1=>0::unit i
structure LF where
 k:Int
 n:Sm
 i:Sm
def LF.add(x y:LF) :LF:=⟨x.k+y.k,rK x.n y.n,rK x.i y.i⟩
def LF.mul(k:Int)(x:LF) :LF:=⟨k*x.k,tL k x.n,tL k x.i⟩
def NE.l:NE->LF
 | .v i=>⟨0,unit i,[]⟩
 | .c n=>⟨n,[],[]⟩
 | .a x y=>x.l.add y.l
 | .m k x=>x.l.mul k
def IE.l:IE->LF
 | .v i=>⟨0,[],unit i⟩
 | .c z=>⟨z,[],[]⟩
 | .n x=>x.l
 | .a x y=>x.l.add y.l
 | .s x y=>x.l.add<|y.l.mul<|-1
 | .g x=>x.l.mul<|-1
 | .m k x=>x.l.mul k
noncomputable def iN:Sm->Sg->Int
 | x::l,y::r=>x*y+iN l r
 | _,_=>0
noncomputable def ip:Sm->Sm->Int
 | x::l,y::r=>x*y+ip l r
 | _,_=>0
def LF.d(ns:Sg)(is:Sm)(x:LF) :Int:=x.k+iN x.n ns+ip x.i is
theorem PO(a b c d:Int) :a+b+(c+d)=a+c+(b+d):=by rw[Int.add_assoc,Int.add_assoc,Int.add_left_comm b]
theorem m1(y:Int) : -1*y = -y:=by rw[Int.neg_mul,Int.one_mul]
theorem DA:∀a b r,iN (rK a b) r=iN a r+iN b r:=by intro a b r;induction a generalizing b r with
 | nil=>exact(cy _).symm
 | cons x a ih=>cases b with
  | nil=>exact(dE _).symm
  | cons y b=>cases r with
   | nil=>exact rfl
   | cons z r=>
     show(x+y)*(z:Int)+iN (rK a b) r=x*z+iN a r+(y*z+iN b r)
     rw[ih b r,Int.add_mul];exact PO _ _ _ _
theorem DC:∀a b r,ip (rK a b) r=ip a r+ip b r:=by intro a b r;induction a generalizing b r with
 | nil=>exact(cy _).symm
 | cons x a ih=>cases b with
  | nil=>exact(dE _).symm
  | cons y b=>cases r with
   | nil=>exact rfl
   | cons z r=>
     show(x+y)*z+ip (rK a b) r=x*z+ip a r+(y*z+ip b r)
     rw[ih b r,Int.add_mul];exact PO _ _ _ _
theorem Dz(k:Int) :∀a r,iN (tL k a) r=k*iN a r:=by intro a r;induction a generalizing r with
 | nil=>exact(oc k).symm
 | cons x a ih=>cases r with
  | nil=>exact(oc k).symm
  | cons z r=>
    show k*x*(z:Int)+iN (tL k a) r=k*(x*z+iN a r)
    rw[ih r,Int.mul_add,Int.mul_assoc]
theorem DB(k:Int) :∀a r,ip (tL k a) r=k*ip a r:=by intro a r;induction a generalizing r with
 | nil=>exact(oc k).symm
 | cons x a ih=>cases r with
  | nil=>exact(oc k).symm
  | cons z r=>
    show k*x*z+ip (tL k a) r=k*(x*z+ip a r)
    rw[ih r,Int.mul_add,Int.mul_assoc]
theorem zL:∀i r,iN (unit i) r=(Ph r i:Int):=by intro i r;induction i generalizing r with
 | zero=>cases r with
  | nil=>exact rfl
  | cons x r=>show 1*(x:Int)+0=x;rw[Int.one_mul,dE]
 | succ i ih=>cases r with
  | nil=>exact rfl
  | cons x r=>show 0*(x:Int)+iN (unit i) r=(Ph r i:Int);rw[ih r,Int.zero_mul,cy]
theorem zN:∀i r,ip (unit i) r=Pj r i:=by intro i r;induction i generalizing r with
 | zero=>cases r with
  | nil=>exact rfl
  | cons x r=>show 1*x+0=x;rw[Int.one_mul,dE]
 | succ i ih=>cases r with
  | nil=>exact rfl
  | cons x r=>show 0*x+ip (unit i) r=Pj r i;rw[ih r,Int.zero_mul,cy]
theorem LF.d_add(ns:Sg)(is:Sm)(x y:LF) :(x.add y).d ns is=x.d ns is+y.d ns is:=by
 show x.k+y.k+iN (rK x.n y.n) ns+ip (rK x.i y.i) is=(x.k+iN x.n ns+ip x.i is)+(y.k+iN y.n ns+ip y.i is)
 rw[DA,DC,PO x.k];exact PO _ _ _ _
theorem LF.d_mul(ns:Sg)(is:Sm)(k:Int)(x:LF) :(x.mul k).d ns is=k*x.d ns is:=by
 show k*x.k+iN (tL k x.n) ns+ip (tL k x.i) is=k*(x.k+iN x.n ns+ip x.i is)
 rw[Dz,DB,Int.mul_add,Int.mul_add]
theorem LF.d_sub(ns:Sg)(is:Sm)(x y:LF) :(x.add<|y.mul<|-1).d ns is=x.d ns is - y.d ns is:=by rw[LF.d_add,LF.d_mul,m1,Int.sub_eq_add_neg]
theorem NE.l_d(ns:Sg)(is:Sm) :∀e:NE,e.l.d ns is=(e.d ns:Int)
 | .v i=>by show 0+iN (unit i) ns+0=(Ph ns i:Int);rw[zL,cy,dE]
 | .c n=>by show(n:Int)+0+0=n;rw[dE,dE]
 | .a x y=>by show(x.l.add y.l).d ns is=((x.d ns+y.d ns:Nat) :Int);rw[LF.d_add,NE.l_d ns is x,NE.l_d ns is y,dO]
 | .m k x=>by show(x.l.mul k).d ns is=((k*x.d ns:Nat) :Int);rw[LF.d_mul,NE.l_d ns is x,Int.natCast_mul]
theorem IE.l_d(ns:Sg)(is:Sm) :∀e:IE,e.l.d ns is=e.d ns is
 | .v i=>by show 0+0+ip (unit i) is=Pj is i;rw[zN,dE,cy]
 | .c z=>by show z+0+0=z;rw[dE,dE]
 | .n x=>NE.l_d ns is x
 | .a x y=>by show(x.l.add y.l).d ns is=x.d ns is+y.d ns is;rw[LF.d_add,IE.l_d ns is x,IE.l_d ns is y]
 | .s x y=>by show(x.l.add<|y.l.mul<|-1).d ns is=x.d ns is - y.d ns is;rw[LF.d_sub,IE.l_d ns is x,IE.l_d ns is y]
 | .g x=>by show(x.l.mul<|-1).d ns is = - x.d ns is;rw[LF.d_mul,IE.l_d ns is x,m1]
 | .m k x=>by show(x.l.mul k).d ns is=k*x.d ns is;rw[LF.d_mul,IE.l_d ns is x]
inductive Cn where | i(x y:IE) | j(x y:IE) | w(x y:NE) | e(x y:NE)
noncomputable abbrev Cn.le(x y:IE) :Cn:=.i x y
noncomputable abbrev Cn.eq(x y:IE) :Cn:=.j x y
noncomputable abbrev Cn.nle(x y:NE) :Cn:=.w x y
noncomputable abbrev Cn.neq(x y:NE) :Cn:=.e x y
noncomputable abbrev Gl(x y:NE) :Int×Cn:=(1,.w x y)
noncomputable abbrev Ge(x y:NE) :Int×Cn:=(1,.e x y)
noncomputable abbrev Gf(x y:NE) :Int×Cn:=(-1,.e x y)
noncomputable abbrev Gi(x y:IE) :Int×Cn:=(1,.i x y)
noncomputable abbrev Gj(x y:IE) :Int×Cn:=(1,.j x y)
noncomputable abbrev Gk(x y:IE) :Int×Cn:=(-1,.j x y)
noncomputable abbrev Gp(x y:NE) :Int×Int×Cn:=(1,-1,.e x y)
noncomputable abbrev Gq(x y:NE) :Int×Int×Cn:=(-1,1,.e x y)
noncomputable abbrev Gr(x y:IE) :Int×Int×Cn:=(1,-1,.j x y)
noncomputable def Cn.d(ns:Sg)(is:Sm) :Cn->Prop
 | .i x y=>x.d ns is<=y.d ns is
 | .j x y=>x.d ns is=y.d ns is
 | .w x y=>x.d ns<=y.d ns
 | .e x y=>x.d ns=y.d ns
noncomputable def Cn.l:Cn->LF
 | .i x y=>y.l.add<|x.l.mul<|-1
 | .j x y=>y.l.add<|x.l.mul<|-1
 | .w x y=>y.l.add<|x.l.mul<|-1
 | .e x y=>y.l.add<|x.l.mul<|-1
noncomputable def Cn.ok(k:Int) :Cn->Bool
 | .i _ _=>decide<|0<=k
 | .j _ _=>true
 | .w _ _=>decide<|0<=k
 | .e _ _=>true
theorem Cn.nn{is:Sm}{k:Int}{c:Cn}(h:c.d ns is)(o:c.ok k=true) :0<=(c.l.mul k).d ns is:=by rw[LF.d_mul];cases c with
 | i x y=>
  show 0<=k*(y.l.add<|x.l.mul<|-1).d ns is
  rw[LF.d_sub,IE.l_d,IE.l_d];exact Int.mul_nonneg (aF o)<|Int.sub_nonneg_of_le h
 | j x y=>
  show 0<=k*(y.l.add<|x.l.mul<|-1).d ns is
  rw[LF.d_sub,IE.l_d,IE.l_d,show x.d ns is=y.d ns is from h,Int.sub_self,oc];exact rE _
 | w x y=>
  show 0<=k*(y.l.add<|x.l.mul<|-1).d ns is
  rw[LF.d_sub,NE.l_d,NE.l_d];exact Int.mul_nonneg (aF o)<|Int.sub_nonneg_of_le<|kr.mpr h
 | e x y=>
  show 0<=k*(y.l.add<|x.l.mul<|-1).d ns is
  rw[LF.d_sub,NE.l_d,NE.l_d,show x.d ns=y.d ns from h,Int.sub_self,oc];exact rE _
noncomputable def tV:List (Int×Cn)->LF
 | []=>⟨0,[],[]⟩
 | (k,c)::cs=>(c.l.mul k).add<|tV cs
noncomputable def MR:List (Int×Cn)->Bool
 | []=>true
 | (k,c)::cs=>c.ok k&&MR cs
noncomputable def LF.neg(x:LF) :Bool:=decide (x.k<0)&&(x.n.all (λz=>decide<|z<=0)&&x.i.all λz=>decide<|z=0)
theorem H0:∀a r,(a.all λz=>decide<|z<=0)=true->iN a r<=0:=by intro a r;induction a generalizing r with
 | nil=>exact @λj0_=>rE 0
 | cons x a ih=>cases r with
  | nil=>exact @λj0_=>rE 0
  | cons z r=>intro h;rw[List.all_cons,az,cC]at h;exact Int.add_le_add (Int.mul_nonpos_of_nonpos_of_nonneg h.1<|cH z)<|ih r h.2
theorem zM:∀a r,(a.all λz=>decide<|z=0)=true->ip a r=0:=by intro a r;induction a generalizing r with
 | nil=>exact @λj0_=>rfl
 | cons x a ih=>cases r with
  | nil=>exact @λj0_=>rfl
  | cons z r=>
    intro h;rw[List.all_cons,az,cC]at h;show x*z+ip a r=0
    rw[ih r h.2,h.1,Int.zero_mul,dE]
theorem LF.neg_d{is:Sm}{x:LF}(h:x.neg=true) :x.d ns is<0:=by unfold LF.neg at h;rw[az,az,cC]at h;have h1:=H0 x.n ns h.2.1;have h2:=zM x.i is h.2.2;unfold LF.d;omega
noncomputable def imp(ns:Sg)(is:Sm)(SD:Prop) :List (Int×Cn)->Prop
 | []=>SD
 | (_,c)::cs=>c.d ns is->imp ns is SD cs
theorem Ct{is:Sm} :∀cs SK,MR cs=true->0<=SK->(SK+(tV cs).d ns is<0\/(0<=SK+(tV cs).d ns is->SD))->imp ns is SD cs:=by intro cs;induction cs with
 | nil=>
  intro SK _ h0 h;have e:(tV []).d ns is=0:=by show(0:Int)+0+0=0;rfl
  rw[e,dE]at h;exact h.elim (λq=>absurd h0<|Int.not_le.mpr q) λq=>q h0
 | cons p0 cs ih=>obtain⟨k,c⟩:=p0;intro SK ho h0 h;intro hc;rw[show MR ((k,c)::cs)=(c.ok k&&MR cs) from rfl,az]at ho;have n:=Cn.nn (k:=k) hc ho.1;refine ih (SK+(c.l.mul k).d ns is) ho.2 (by omega) ?_;have e:(tV ((k,c)::cs)).d ns is=(c.l.mul k).d ns is+(tV cs).d ns is:=LF.d_add ..;rw[e,<- Int.add_assoc]at h;exact h
noncomputable def Cn.den:Cn->LF
 | .i x y=>(x.l.add<|y.l.mul<|-1).add ⟨-1,[],[]⟩
 | .w x y=>(x.l.add<|y.l.mul<|-1).add ⟨-1,[],[]⟩
 | _=>⟨0,[],[]⟩
noncomputable def Cn.isLe:Cn->Bool
 | .i _ _=>true
 | .w _ _=>true
 | _=>false
theorem Nq{a b:Int}(h:a - b + -1<0) :a<=b:=by omega
theorem Cn.den_d{is:Sm}{c:Cn}(hl:c.isLe=true)(h:c.den.d ns is<0) :c.d ns is:=by
 have key:∀x y:LF,((x.add<|y.mul<|-1).add ⟨-1,[],[]⟩).d ns is=x.d ns is - y.d ns is + -1:=λx y=>by rw[LF.d_add,LF.d_sub];rfl
 cases c with
 | i x y=>have h:((x.l.add<|y.l.mul<|-1).add ⟨-1,[],[]⟩).d ns is<0:=h;rw[key,IE.l_d,IE.l_d]at h;exact Nq h
 | w x y=>have h:((x.l.add<|y.l.mul<|-1).add ⟨-1,[],[]⟩).d ns is<0:=h;rw[key,NE.l_d,NE.l_d]at h;exact kr.mp<|Nq h
 | j x y=>cases hl
 | e x y=>cases hl
def chk(g:Int)(SD:Cn)(cs:List (Int×Cn)) :Bool:=decide (0<=g)&&(SD.isLe&&(MR cs&&((SD.den.mul g).add<|tV cs).neg))
theorem sB(ns:Sg)(is:Sm)(g:Int)(SD:Cn)(cs:List (Int×Cn))(h:chk g SD cs=true) :imp ns is (SD.d ns is) cs:=by unfold chk at h;rw[az,az,az,cC]at h;obtain⟨h0,h1,h2,h3⟩:=h;refine Ct cs 0 h2 (rE _)<|.inr λG=>?_;rw[cy]at G;have hn:=LF.neg_d (ns:=ns) (is:=is) h3;rw[LF.d_add,LF.d_mul]at hn;refine Cn.den_d h1<|Int.not_le.mp λq=>?_;have:=Int.mul_nonneg h0 q;omega
noncomputable def Cn.fw:Cn->Cn
 | .i x y=>.i x y
 | .j x y=>.i x y
 | .w x y=>.w x y
 | .e x y=>.w x y
noncomputable def Cn.bw:Cn->Cn
 | .i x y=>.i x y
 | .j x y=>.i y x
 | .w x y=>.w x y
 | .e x y=>.w y x
noncomputable def f1(p:Int×Int×Cn) :Int×Cn:=(p.1,p.2.2)
noncomputable def f2(p:Int×Int×Cn) :Int×Cn:=(p.2.1,p.2.2)
theorem GR{is:Sm}{P Q R:Prop}(k:P->Q->R)(cs:List (Int×Int×Cn)) :imp ns is P (cs.map f1)->imp ns is Q (cs.map f2)->imp ns is R (cs.map f1):=by induction cs with
 | nil=>exact k
 | cons p cs ih=>exact λa b h=>ih (a h)<|b h
theorem Qu(ns:Sg)(is:Sm)(SD:Cn)(cs:List (Int×Int×Cn))(h:(chk 1 SD.fw (cs.map f1)&&chk 1 SD.bw (cs.map f2))=true) :imp ns is (SD.d ns is) (cs.map f1):=by rw[az]at h;refine GR ?_ cs (sB ns is 1 _ _ h.1)<|sB ns is 1 _ _ h.2;cases SD with
 | i x y=>exact λp j0_=>p
 | j x y=>exact λp q=>jd p q
 | w x y=>exact λp j0_=>p
 | e x y=>exact λp q=>dM p q
theorem Le(ns:Sg)(SD:Cn)(cs:List (Int×Int×Cn))(h:(chk 1 SD.fw (cs.map f1)&&chk 1 SD.bw (cs.map f2))=true) :imp ns [] (SD.d ns []) (cs.map f1):=Qu ns [] SD cs h
theorem Ln(ns:Sg)(SD:Cn)(cs:List (Int×Cn))(h:chk 1 SD cs=true) :imp ns [] (SD.d ns []) cs:=sB ns [] 1 SD cs h
theorem Li(is:Sm)(SD:Cn)(cs:List (Int×Cn))(h:chk 1 SD cs=true) :imp [] is (SD.d [] is) cs:=sB [] is 1 SD cs h
def chkF(cs:List (Int×Cn)) :Bool:=MR cs&&(tV cs).neg
theorem qj(ns:Sg)(is:Sm)(cs:List (Int×Cn))(h:chkF cs=true) :imp ns is False cs:=by unfold chkF at h;rw[az]at h;refine Ct cs 0 h.1 (rE _)<|.inl ?_;rw[cy];exact LF.neg_d h.2
theorem Lf(ns:Sg)(cs:List (Int×Cn))(h:chkF cs=true) :imp ns [] False cs:=qj ns [] cs h
end Mv
end
section
namespace Mv
open PySem
theorem wW(f:Kt D (Option D))(cl:Sg)(d:D)(V:Sb)(Y:Fm) : @u4 f cl (d::V) Y=bI (f.run d<|clr Y cl) λr Y=>bI (@u4 f cl V Y) (QT r):=by first | rfl | kernel_rfl
theorem zo(f:Kt D dU)(cl:Sg)(d:D)(V:Sb)(Y:Fm) : @CL f cl (d::V) Y=bI (f.run d<|clr Y cl) λc Y=>match c with
  | .next=>@CL f cl V Y
  | .ret r=>some (.ok<|.ret r,Y):=by first | rfl | kernel_rfl
theorem Ml(q:dc α) : @vm _ _ q ⟨λrs Y=>some (.ok rs,Y)⟩=q:=by rcases q with _ | ⟨_ | _,_⟩ <;> rfl
section
variable (c:gR)(Y:Fm)
def dC(elt:Ex)(t:ja)(conds:List Ex)(SJ:Sb) :dc Sb:=
 u4 (f:=⟨λd Y=>mo (asgT c.pin Y t<|.fz d) λY=>bI (evConds c conds Y) λb Y=>if b then bI (ev c elt Y) λr Y=>FR Y ((gU r).map some) else some (.ok none,Y)⟩) (bX t) SJ Y
theorem HA(elt:Ex)(t:ja)(it:kZ)(src conds:List Ex) :ev c (.comp elt t it src conds) Y=if c.hd=true then none else vm (k:=⟨λrs Y=>mo (gE rs) λV=>mo (di it V) λSJ=>Pb (k:=⟨λV Y=>some (.ok<|.own<|.list V,Y)⟩) (bX t)<|dC c Y elt t conds SJ⟩) (evs c src Y):=by first | rfl | kernel_rfl
theorem cI(elt:Ex)(t:ja)(conds:List Ex) :dC c Y elt t conds []=some (.ok [],clr Y<|bX t):=by first | rfl | kernel_rfl
theorem wX(elt:Ex)(t:ja)(conds:List Ex)(d:D)(V:Sb) :dC c Y elt t conds (d::V) =
  mo (asgT c.pin (clr Y<|bX t) t<|.fz d) λY=>vm (k:=⟨λb Y=>if b=true then vm (k:=⟨λr Y=>match gU r with
    | none=>none
    | some x=>vm (k:=⟨λrs Y=>some (.ok (x::rs),Y)⟩)<|dC c Y elt t conds V⟩) (ev c elt Y) else dC c Y elt t conds V⟩) (evConds c conds Y):=by
 unfold dC;refine(wW _ _ _ _ _).trans ?_;dsimp only;cases asgT c.pin (clr Y<|bX t) t (.fz d) with
 | none=>rfl
 | some Y=>
  dsimp only[bI];rw[BM,BM];rcases evConds c conds Y with _ | ⟨_ | b,Y⟩
  .rfl
  .rfl
  .rw[lH,lH];cases b with
   | false=>simp only[gz,if_false,lH];exact Ml _
   | true=>
    simp only[if_true];rcases ev c elt Y with _ | ⟨_ | r,Y⟩
    .rfl
    .rfl
    .rw[lH,lH];cases gU r with
     | none=>rfl
     | some x=>rfl
theorem sS(e:Ex)(es:List Ex) :evConds c (e::es) Y=vm (k:=⟨λr Y=>mo (gV Y r) λd=>if tD d then evConds c es Y else some (.ok false,Y)⟩) (ev c e Y):=by first | rfl | kernel_rfl
def dJ(t:ja)(body:List St)(SO:Sg)(SJ:Sb) :dc dU:=
 CL (f:=⟨λd Y=>mo (asgT c.pin Y t<|.fz d) λY=>exSs c body Y⟩) SO SJ Y
theorem Hw(t:ja)(it:kZ)(src:List Ex)(body:List St)(SO:Sg) :jF c (.for_ t it src body SO) Y=if c.hd=true then none else vm (k:=⟨λrs Y=>mo (gE rs) λV=>mo (di it V) λSJ=>dJ c Y t body SO SJ⟩) (evs c src Y):=by first | rfl | kernel_rfl
theorem b4(t:ja)(body:List St)(SO:Sg) :dJ c Y t body SO []=some (.ok .next,clr Y SO):=by first | rfl | kernel_rfl
theorem zq(t:ja)(body:List St)(SO:Sg)(d:D)(V:Sb) :dJ c Y t body SO (d::V) =
  mo (asgT c.pin (clr Y SO) t<|.fz d) λY=>vm (k:=⟨λk Y=>match k with
   | .next=>dJ c Y t body SO V
   | .ret r=>some (.ok<|.ret r,Y)⟩) (exSs c body Y):=by
 unfold dJ;refine(zo _ _ _ _ _).trans ?_;dsimp only;cases asgT c.pin (clr Y SO) t (.fz d) with
 | none=>rfl
 | some Y=>rfl
def pY(t:Ex)(body:List St)(SO:Sg)(n:Nat) :dc dU:=
 EF (t:=⟨λj0_ Y=>bI (ev c t Y) λr Y=>mo (gV Y r) λd=>some (.ok<|tD d,Y)⟩) (f:=⟨λj0_ Y=>exSs c body Y⟩) SO n Y
theorem Hv(t:Ex)(body:List St)(SO:Sg) :jF c (.whl t body SO) Y=IN (pY c Y t body SO):=by first | rfl | kernel_rfl
theorem Av(t:Ex)(body:List St)(SO:Sg)(n:Nat) :pY c Y t body SO (n+1) =
  vm (k:=⟨λb Y=>match b with
   | true=>vm (k:=⟨λk Y=>match k with
    | .next=>pY c Y t body SO n
    | .ret r=>some (.ok<|.ret r,Y)⟩) (exSs c body Y)
   | false=>some (.ok .next,Y)⟩) (bI (ev c t<|clr Y SO) λr Y=>mo (gV Y r) λd=>some (.ok<|tD d,Y)):=by first | rfl | kernel_rfl
theorem Nd(h:IN f=some o) :∃n,f n=some o:=by
 unfold IN at h;by_cases q:∃n o,f n=some o
 .rw[dif_pos q]at h;exact⟨_,h⟩
 .rw[dif_neg q]at h;exact bz h
theorem Au{t:Kt Unit Bool}{cl:Sg} :∀{n:Nat}{Y:Fm}{o:Se dU×Fm},@EF t f cl n Y=some o->@EF t f cl (n+1) Y=some o:=by intro n;induction n with
 | zero=>intro Y o h;exact bz h
 | succ n ih=>
  intro Y o h;have h:bI (t.run ()<|clr Y cl) (λb Y=>match b with
   | true=>bI (f.run () Y)<|Fa<|@EF t f cl n
   | false=>some (.ok .next,Y))=some o:=h
  show bI (t.run ()<|clr Y cl) (λb Y=>match b with
   | true=>bI (f.run () Y)<|Fa<|@EF t f cl<|n+1
   | false=>some (.ok .next,Y))=some o
  generalize t.run () (clr Y cl)=x at h |-;rcases x with _ | ⟨_ | b,f1⟩
  .exact h
  .exact h
  .cases b with
   | false=>exact h
   | true=>
    have h:bI (f.run () f1) (Fa<|@EF t f cl n)=some o:=h;show bI (f.run () f1) (Fa<|@EF t f cl<|n+1)=some o
    generalize f.run () f1=x at h |-;rcases x with _ | ⟨_ | k,f2⟩
    .exact h
    .exact h
    .cases k with
     | next=>exact ih h
     | ret r=>exact h
theorem vq{t:Ex}(h:pY c Y t body SO n=some o) :IN (pY c Y t body SO)=some o:=by
 have m:∀(k:Nat){n:Nat}{o:Se dU×Fm},pY c Y t body SO n=some o->pY c Y t body SO (n+k)=some o:=λk=>by induction k with
  | zero=>exact λh=>h
  | succ k ih=>exact λh=>Au<|ih h
 have q:∃n o,pY c Y t body SO n=some o:=⟨n,o,h⟩
 unfold IN;rw[dif_pos q];obtain⟨o',e⟩:=q.choose_spec;have a:=m n e;rw[cU]at a;rw[e];exact a.symm.trans<|m q.choose h
theorem zF(k:Str) :jF c (.raise k) Y=if c.hd=true then none else some (.error k,Y):=by first | rfl | kernel_rfl
noncomputable def AF(g:Str->Fm->dc dU)(m:dc dU) :dc dU:=match m with
 | none=>none
 | some (.ok k,Y)=>some (.ok k,Y)
 | some (.error e,Y)=>g e Y
theorem uT(body:List St)(G:List (Str×Sd×D)) :jF c (.tryx body G) Y=AF (λe=>Hx e G) (exSs c body Y):=by first | rfl | kernel_rfl
theorem uU(body:List St)(yes:Sd)(i f:Nat) :jF c (.tryw body yes i f) Y=if c.hd=true then none else AF (λe=>PN c e yes i f) (exSs c body Y):=by first | rfl | kernel_rfl
theorem EO(g:Str->Fm->dc dU)(k:dU) :AF g (some (.ok k,Y))=some (.ok k,Y):=by first | rfl | kernel_rfl
theorem AE(g:Str->Fm->dc dU)(e:Str) :AF g (some (.error e,Y))=g e Y:=by first | rfl | kernel_rfl
theorem Jg(e:Str)(p:Str×Sd×D)(G:List (Str×Sd×D)) :Hx e (p::G) Y=if p.2.1.contains e then some (.ok<|.ret<|.fz p.2.2,Y) else Hx e G Y:=by first | rfl | kernel_rfl
theorem m4(s:St)(ss:List St) :exSs c (s::ss) Y=vm (k:=⟨λk Y=>match k with
  | .next=>exSs c ss Y
  | .ret r=>some (.ok<|.ret r,Y)⟩) (jF c s Y):=by rfl
end
theorem KR(a b:Int) :op2 .add (.int a) (.int b)=some (.fz<|.int<|a+b):=by first | rfl | kernel_rfl
theorem Bv(a b:Str) :op2 .add (.str a) (.str b)=if a.cps.size+b.cps.size<=Sz then some (.fz<|.str ⟨a.cps++b.cps⟩) else none:=by first | rfl | kernel_rfl
theorem mW(a b:Sb) :op2 .add (.tuple a) (.tuple b)=if a.length+b.length<=Sz then some (.fz<|.tuple<|a++b) else none:=by first | rfl | kernel_rfl
theorem vQ(a b:Sb) :op2 .add (.list a) (.list b)=if a.length+b.length<=Sz then some (.own<|.list<|a++b) else none:=by first | rfl | kernel_rfl
theorem r6(a b:Int) :op2 .fdiv (.int a) (.int b)=if b≠0/\b.natAbs<2 ^ 64 then some (.fz<|.int<|a.fdiv b) else none:=by first | rfl | kernel_rfl
theorem Bu(a b:Int) :op2 .mod (.int a) (.int b)=if b=0 then none else some (.fz<|.int<|a.fmod b):=by first | rfl | kernel_rfl
theorem DY(a:D) :pI .len [a]=(Gn a).map λn=>.fz (.int n):=by first | rfl | kernel_rfl
theorem Pe(a:Int) :pI .abs [.int a]=some (.fz<|.int a.natAbs):=by first | rfl | kernel_rfl
theorem OO(a b:Int) :qU (.int a) (.int b)=some (a==b):=by first | rfl | kernel_rfl
theorem LR(a b:Sb) :qU (.list a) (.list b)=if mn (.list a) (.list b) then some (PyData.eqv (.list a)<|.list b) else none:=by first | rfl | kernel_rfl
theorem zX:f9 Y (r::rs) (s::ss) outs=if s.lent then(match outs with
   | o::os=>(match r with
    | .pl (.var i)=>f9 (Y.set i o) rs ss os
    | _=>f9 Y rs ss os)
   | []=>Y) else f9 Y rs ss outs:=by first | rfl | kernel_rfl
theorem Bn:lE (s::ss) Y=if s.lent then Y.headD .no::lE ss Y.tail else lE ss Y.tail:=by first | rfl | kernel_rfl
theorem jN{k:Nat} :fA k (s::ss)=if s.lent then k::fA (k+1) ss else fA (k+1) ss:=by first | rfl | kernel_rfl
theorem Ks:nU Y (r::rs)=(match gV Y r,nU Y rs with
  | some d,some V=>some (d::V)
  | _,_=>none):=by first | rfl | kernel_rfl
theorem Kp:gE (r::rs)=(match gU r,gE rs with
  | some d,some V=>some (d::V)
  | _,_=>none):=by first | rfl | kernel_rfl
theorem A8(h:gE (r::rs)=some V) :∃d ds',gU r=some d/\gE rs=some ds'/\V=d::ds':=by rw[Kp]at h;cases q:gU r with
 | none=>rw[q]at h;exact bz h
 | some d=>cases p:gE rs with
  | none=>rw[q,p]at h;exact bz h
  | some ds'=>rw[q,p]at h;exact⟨d,ds',rfl,rfl,(bO h).symm⟩
theorem A9(h:nU Y (r::rs)=some V) :∃d ds',gV Y r=some d/\nU Y rs=some ds'/\V=d::ds':=by rw[Ks]at h;cases q:gV Y r with
 | none=>rw[q]at h;exact bz h
 | some d=>cases p:nU Y rs with
  | none=>rw[q,p]at h;exact bz h
  | some ds'=>rw[q,p]at h;exact⟨d,ds',rfl,rfl,(bO h).symm⟩
theorem Ba(h:nU Y [r]=some V) :∃d,gV Y r=some d/\V=[d]:=kL (A9 h) λd j0_ z=>⟨d,z.1,z.2.2.trans<|congrArg _ (bO z.2.1).symm⟩
theorem Ku(h:nU Y [r,r']=some V) :∃d e,gV Y r=some d/\gV Y r'=some e/\V=[d,e]:=kL (A9 h) λd j0_ z=>aR (Ba z.2.1) λe q=>⟨d,e,z.1,q.1,z.2.2.trans<|congrArg _ q.2⟩
theorem Kq(h:gE [r]=some V) :∃d,gU r=some d/\V=[d]:=kL (A8 h) λd j0_ z=>⟨d,z.1,z.2.2.trans<|congrArg _ (bO z.2.1).symm⟩
theorem Iv(S:Sb)(b:Bool) :DI (.list S) b=(jq S).map λbs=>.fz (.int (bs.count b:Nat)):=rfl
theorem KQ(a:Str)(n:Int) :op2 .mul (.str a) (.int n)=if -1000000000<=n/\n<=1000000000/\a.cps.size*n.toNat<=Sz then some (.fz<|.str ⟨(rep n a.cps.toList).toArray⟩) else none:=rfl
theorem e_strD(a b:Str) :qU (.str a) (.str b)=some (decide<|a=b):=by
 show some (a.cps.toList==b.cps.toList)=_
 congr 1;obtain⟨⟨l⟩⟩:=a;obtain⟨⟨k⟩⟩:=b;by_cases q:l=k
 .subst q;simp
 .have h1:¬((⟨⟨l⟩⟩ :Str)=⟨⟨k⟩⟩):=by intro e;apply q;injection e with e;injection e
  rw[aA h1];simpa using q
theorem Pd(S:Sb) :pI .sum [.list S]=(vz 0 S).map .fz:=rfl
end Mv
end
section
namespace Lq
open PySem Mv
noncomputable abbrev SC(l:Sg) :D:=.str ⟨l.toArray⟩
noncomputable abbrev x_HalfError:Str:=⟨#[72,97,108,102,69,114,114,111,114]⟩
noncomputable abbrev aS:Str:=⟨#[78,111,78,117,109,98,101,114]⟩
noncomputable abbrev bH:Str:=⟨#[78,111,76,105,115,116]⟩
noncomputable abbrev bq:Str:=⟨#[78,111,70,105,114,115,116]⟩
noncomputable abbrev bN:Str:=⟨#[78,111,68,111,119,110]⟩
noncomputable abbrev bf:Str:=⟨#[66,121,78,111,117,103,104,116]⟩
noncomputable abbrev bj:Str:=⟨#[84,111,111,71,114,101,97,116]⟩
noncomputable abbrev bu:Str:=⟨#[84,111,111,76,111,110,103]⟩
noncomputable abbrev b5:Str:=⟨#[78,111,116,75,101,112,116]⟩
noncomputable abbrev cJ:Str:=⟨#[78,111,84,101,120,116]⟩
noncomputable def G0:D:=(.int 1000000000000000000)
noncomputable def wq:D:=(.int 50)
def qQ:D:=(.tuple [(SC [100,111,119,110]),(SC [102,105,114,115,116]),(SC [114,101,115,116]),(SC [101,109,112,116,121])])
def Ly:D:=(.tuple [(SC [102,105,114,115,116]),(SC [114,101,115,116]),(SC [100,111,119,110])])
abbrev eC:Ex:=SH 1
abbrev Q3:List St:=[.ret<|.neg eC]
abbrev Dq:Ex:=.bi (.isi .tup) [cT]
abbrev zH:Ex:=.op2 .sub d8 eC
abbrev fK:Ex:=SH 0
abbrev Q4:List St:=[fr 3<|.call 0 [iR,gA],.iff (.cmp .lt gA fK) Q3 []]
def uH:Fn:=⟨2,5,[.iff (.cmp .lt d8 eC) Q3 [],.iff (.not Dq) [fr 2<|.bo true [(.bi (.isi .int) [cT]),(.not<|.bi (.isi .bool) [cT]),(.cmp2 .lt .lt (.neg<|.gl 0) cT<|.gl 0)],.iff fY [.ret zH] Q3] [],fr 3 zH,.for_ (.one 4) .seq [cT] Q4 [4],.ret gA],0,[]⟩
def wJ:Fn:=⟨1,1,[.ret<|.cmp .ge (.call 0 [cT,(.gl 1)]) fK],0,[]⟩
abbrev wR:Ex:=.lit<|SC [78,111,78,117,109,98,101,114]
abbrev Du:Ex:=.lit<|SC [78,111,76,105,115,116]
abbrev HO:Ex:=.lit<|SC [78,111,70,105,114,115,116]
abbrev Dr:Ex:=.lit<|SC [78,111,68,111,119,110]
abbrev Dt:Ex:=.lit<|SC [66,121,78,111,117,103,104,116]
def C1:Fn:=⟨1,1,[.iff (hs cT wR) [.raise aS] [],.iff (hs cT Du) [.raise bH] [],.iff (hs cT HO) [.raise bq] [],.iff (hs cT Dr) [.raise bN] [],.iff (hs cT Dt) [.raise bf] [],.raise bj],0,[]⟩
def zD:Fn:=⟨1,1,[.iff (.not<|.call 1 [cT]) [.raise bj] [],.ret cT],0,[]⟩
abbrev wP:Ex:=.bi (.isi .tup) [d8]
abbrev HR:Ex:=.lit<|SC [112,108,117,115]
abbrev LV:Ex:=.lit<|SC [116,105,109,101,115]
abbrev HP:Ex:=.lit<|SC [108,101,115,115]
def qq:Fn:=⟨3,3,[.iff (.bo false [wP,(.bi (.isi .tup) [fY])]) [.raise aS] [],.iff (hs cT HR) [.ret<|sc d8 fY] [],.iff (hs cT<|.lit<|SC [109,105,110,117,115]) [.ret<|.op2 .sub d8 fY] [],.iff (hs cT LV) [.ret<|.op2 .mul d8 fY] [],.iff (hs cT HP) [.ret<|.bi .int [(.cmp .lt d8 fY)]] [],.iff (hs fY fK) [.raise bf] [],.ret<|.op2 .fdiv d8 fY],0,[]⟩
def LH:Fn:=⟨1,1,[.iff Dq [.raise aS] [],.iff (.cmp .lt cT eC) [.raise bN] [],.ret<|.op2 .sub cT eC],0,[]⟩
abbrev wQ:Ex:=.lit<|SC [101,109,112,116,121]
abbrev zJ:Ex:=.bi .len [d8]
abbrev HI:Ex:=hs zJ fK
abbrev sZ:Ex:=.lit<|SC [102,105,114,115,116]
abbrev iM:Ex:=.idx d8 fK
noncomputable abbrev pi:Ex:=.lit .none
def uL:Fn:=⟨2,2,[.iff (.not wP) [.raise bH] [],.iff (hs cT wQ) [.ret<|.bi .int [HI]] [],.iff HI [.raise bq] [],.iff (hs cT sZ) [.ret iM] [],.ret<|.slc d8 eC pi],0,[]⟩
def De:Fn:=⟨2,2,[.iff (.not wP) [.raise bH] [],.ret<|sc (.tup [cT]) d8],0,[]⟩
abbrev wS:Ex:=.lit<|SC [108,105,115,116]
abbrev uW:Ex:=.lit<|SC [100,111,119,110]
abbrev LT:Ex:=.lit<|SC [115,97,109,101]
abbrev mz:Ex:=.idx d8 eC
abbrev Ds:Ex:=.lit<|SC [106,111,105,110]
def LI:Fn:=⟨2,2,[.iff (hs cT wS) [.ret<|.call 3 [(.bi .tuple [d8])]] [],.iff (hs cT uW) [.ret<|.call 5 [iM]] [],.iff (.cmp .isin cT<|.gl 2) [.ret<|.call 6 [cT,iM]] [],.iff (hs cT LT) [.ret<|.bi .int [(hs iM mz)]] [],.iff (hs cT Ds) [.ret<|.call 3 [(.call 7 [iM,mz])]] [],.ret<|.call 3 [(.call 4 [cT,iM,mz])]],0,[]⟩
abbrev pj:Ex:=.idx cT fK
abbrev qW:Ex:=.lit<|SC [118,97,108,117,101]
abbrev yh:Ex:=.lit<|SC [110,97,109,101]
abbrev zG:Ex:=.lit<|SC [114,101,102,117,115,101]
abbrev sX:Ex:=.lit<|SC [105,102]
abbrev io:Ex:=SH 2
abbrev OU:Ex:=.idx cT io
abbrev QW:List St:=[fr 2<|sc (.pl<|.var 2)<|.call 9 [gA]]
abbrev Ji:Ex:=.lit<|SC [99,97,108,108]
def wK:Fn:=⟨1,4,[.iff (.cmp .isin pj<|.tup [qW,yh,zG]) [.ret<|.list []] [],.iff (hs pj sX) [fr 1<|.slc cT eC pi] [fr 1 OU],fr 2<|.list [],.for_ (.one 3) .seq [d8] QW [3],.iff (hs pj Ji) [.app (.var 2) cT] [],.ret fY],0,[]⟩
abbrev OW:Ex:=.idx cT eC
abbrev mO:Ex:=.lit<|SC [100,111]
def zC:Fn:=⟨2,2,[.iff (hs pj yh) [.ret<|.cmp .isin OW d8] [],.iff (hs pj mO) [.ret<|.bo true [(.cmp .isin OW<|.gl 3),(.call 10 [(.idx OU fK),d8])]] [],.ret<|.cmp .isin pj<|.tup [qW,zG]],0,[]⟩
abbrev OP:Ex:=.idx oh eC
noncomputable abbrev jG:Ex:=.lit<|.bool false
abbrev Rg:List St:=[.iff (.bo true [gB,(.not<|.call 10 [yu,gp])]) [.ret jG] []]
abbrev RF:List St:=[.for_ (.tup [7,8]) .zip [(.idx oh io),(.idx d8 OP)] Rg [7,8]]
abbrev Rw:List St:=[fr 5<|.comp gi (.tup [9,10]) .zip [gA,(.idx d8 fY)] [dl],.for_ (.one 6) .seq [(.call 9 [iR])] RF [6,7,8]]
noncomputable abbrev ng:Ex:=.lit<|.bool true
def Hs:Fn:=⟨2,11,[.for_ (.tup [2,3,4]) .seq [cT] Rw [2,3,4,5,6,7,8],.ret ng],0,[]⟩
def sO:Fn:=⟨2,3,[.tryx [fr 2<|.call 8 [cT,d8]] [(aS,[aS],(.tuple [(SC [114,101,102,117,115,101]),(SC [78,111,78,117,109,98,101,114])])),(bH,[bH],(.tuple [(SC [114,101,102,117,115,101]),(SC [78,111,76,105,115,116])])),(bq,[bq],(.tuple [(SC [114,101,102,117,115,101]),(SC [78,111,70,105,114,115,116])])),(bN,[bN],(.tuple [(SC [114,101,102,117,115,101]),(SC [78,111,68,111,119,110])])),(bf,[bf],(.tuple [(SC [114,101,102,117,115,101]),(SC [66,121,78,111,117,103,104,116])])),(bj,[bj],(.tuple [(SC [114,101,102,117,115,101]),(SC [84,111,111,71,114,101,97,116])]))],SG [qW,fY]],0,[]⟩
noncomputable abbrev LS:Ex:=.bi .len [(.pl<|.var 3)]
abbrev Nb:List St:=[.app (.var 3)<|.mcall 50 [7,8,9,10,11,12,13,14] [LS]]
abbrev Nj:List St:=[.app (.var 4)<|.tup [(sc (.lit<|SC [102])<|.bi .str [gp]),(.idx oh fK),OP]]
def C0:Fn:=⟨3,15,[.iff (.not<|.call 11 [cT,d8]) [.raise b5] [],.new 44 [7,8,9,10,11,12,13,14] [cT,d8] [.exp<|.mcall 45 [7,8,9,10,11,12,13,14] [(.idx pj fK),(.bi .tuple [fY])],fr 3<|.list [],.whl (.cmp .lt LS<|.bi .len [(.pl<|.var 9)]) Nb [],fr 4<|.list [],.for_ (.tup [5,6]) .enum [gi] Nj [5,6],SG [(.bi .tuple [(.pl<|.var 3)]),iR]]],0,[]⟩
def uM:Fn:=⟨3,3,[.ret<|.idx (.call 13 [cT,d8,fY]) fK],0,[]⟩
noncomputable abbrev yy:List St:=[.mst 57 [3,4,5,6,7,8,9,10] [8] []]
def OL:Fn:=⟨3,11,[.new 51 [3,4,5,6,7,8,9,10] [cT,fY] [.exp<|.mcall 52 [3,4,5,6,7,8,9,10] [(.idx pj eC),(.idx pj io),d8],.whl (.cmp .nel (.pl<|.var 9)<|.list []) yy [],.ret<|.idx (.pl<|.var 10) fK]],0,[]⟩
def uR:Fn:=⟨2,2,[.iff (.cmp .lt d8<|.bi .len [cT]) [.ret<|.idx cT d8] [],.ret fK],0,[]⟩
def C9:Fn:=⟨1,2,[fr 1<|SF (sc (.op2 .mul cT<|SH 48271)<|SH 11)<|SH 2147483647,.ret<|SF (.op2 .mul d8 d8)<|SH 2147483629],0,[]⟩
abbrev nZ:Ex:=SH 3
abbrev HJ:Ex:=SH 5
abbrev sW:Ex:=SH 4
abbrev wN:Ex:=SH 6
abbrev LW:Ex:=SF cT<|SH 16
abbrev HU:Ex:=.op2 .fdiv cT<|SH 16
abbrev Dv:Ex:=.op2 .pow (SH 10)<|SH 18
def zt:Fn:=⟨1,3,[fr 1<|.list [fK,eC,io,nZ,HJ,(.neg eC),(.neg sW),(.tup []),(.tup [eC]),(.tup [io,fK]),(.tup [eC,io,nZ]),(.tup [(.tup []),eC]),(.tup [(.tup [eC,io]),(.tup [nZ])]),(.tup [sW,(.tup [HJ,(.tup [wN])])])],.iff (hs LW<|SH 14) [.ret<|sc (.op2 .sub (SF HU<|.op2 .sub (.op2 .mul io Dv) eC) Dv) eC] [],.iff (hs LW<|SH 15) [.ret<|.bi .tuple [(.comp (SF HU<|sc fY io) (.one 2) .range [(SF HU<|SH 9)] [])]] [],.ret<|.idx d8 LW],0,[]⟩
abbrev NF:List St:=[.iff (.not<|.call 19 [(.idx cT fY),(.idx d8 fY)]) [.ret jG] []]
def C8:Fn:=⟨2,3,[.iff wP [.iff (.bo false [(.not Dq),(.cmp .ne (.bi .len [cT]) zJ)]) [.ret jG] [],.for_ (.one 2) .range [zJ] NF [2],.ret ng] [],.iff (.bi (.isi .str) [d8]) [.ret<|.bo true [(.bi (.isi .str) [cT]),(hs cT d8)]] [],.ret<|.bo true [(.bi (.isi .int) [cT]),(.not<|.bi (.isi .bool) [cT]),(hs cT d8)]],0,[]⟩
def wG:Fn:=⟨1,2,[.iff Dq [.ret<|sc eC<|.bi .sum [(.comp (.call 20 [d8]) (.one 1) .seq [cT] [])]] [],.ret eC],0,[]⟩
abbrev HW:Ex:=.lit<|SC [84,111,111,71,114,101,97,116]
def Ho:Fn:=⟨1,1,[.iff Dq [SG [(.cmp .le (.call 20 [cT])<|SH 50),(.idx (.list [cT,HW])<|.bi .int [(.cmp .gt (.call 20 [cT])<|SH 50)])]] [],SG [(.cmp .lt (.bi .abs [cT]) Dv),(.idx (.list [cT,HW])<|.bi .int [(.cmp .ge (.bi .abs [cT]) Dv)])]],0,[]⟩
abbrev HQ:Ex:=.lit<|SC [111,118,101,114]
def uQ:Fn:=⟨3,3,[.iff (.bo false [wP,(.bi (.isi .tup) [fY])]) [SG [jG,wR]] [],.iff (hs cT HQ) [.iff (hs fY fK) [SG [jG,Dt]] [],.ret<|.call 21 [(.op2 .fdiv d8 fY)]] [],.iff (hs cT HP) [SG [ng,(.bi .int [(.cmp .lt d8 fY)])]] [],.ret<|.call 21 [(.idx (.disp [⟨#[112,108,117,115]⟩,⟨#[109,105,110,117,115]⟩,⟨#[116,105,109,101,115]⟩] [(sc d8 fY),(.op2 .sub d8 fY),(.op2 .mul d8 fY)]) cT)]],0,[]⟩
def zu:Fn:=⟨2,2,[.iff (hs cT uW) [.iff wP [SG [jG,wR]] [],SG [(.cmp .gt d8 fK),(.idx (.list [zH,Dr])<|.bi .int [(.cmp .le d8 fK)])]] [],.iff (.not wP) [SG [jG,Du]] [],.iff (hs cT wQ) [SG [ng,(.bi .int [HI])]] [],.iff HI [SG [jG,HO]] [],.iff (hs cT sZ) [SG [ng,iM]] [],SG [ng,(.slc d8 eC pi)]],0,[]⟩
abbrev sY:Ex:=.lit<|SC [114,101,115,116]
def Dc:Fn:=⟨2,2,[.iff (hs cT wS) [.ret<|.call 21 [(.bi .tuple [d8])]] [],.iff (hs cT LT) [SG [ng,(.bi .int [(hs iM mz)])]] [],.iff (.cmp .isin cT<|.tup [sZ,sY,wQ,uW]) [.ret<|.call 23 [cT,iM]] [],.iff (.cmp .ne cT Ds) [.ret<|.call 22 [cT,iM,mz]] [],.iff (.not<|.bi (.isi .tup) [mz]) [SG [jG,Du]] [],.ret<|.call 21 [(sc (.tup [iM]) mz)]],0,[]⟩
abbrev OV:Ex:=.idx iR eC
abbrev QM:Ex:=.idx yu fK
abbrev AG:List St:=[fr 7<|.call 25 [cT,oh,fY,(.pl<|.var 3)],.iff (.not QM) [.ret yu] [],.app (.var 5)<|.idx yu eC]
def C6:Fn:=⟨4,10,[.iff (hs iM qW) [SG [ng,mz]] [],.iff (hs iM yh) [SG [ng,(.idx fY mz)]] [],.iff (hs iM zG) [SG [jG,mz]] [],.iff (hs iM sX) [fr 4<|.call 25 [cT,mz,fY,(.pl<|.var 3)],.iff (.not<|.idx iR fK) [.ret iR] [],.iff (.bi (.isi .tup) [OV]) [SG [jG,wR]] [],.ret<|.call 25 [cT,(.idx d8<|sc io<|.bi .int [(hs OV fK)]),fY,(.pl<|.var 3)]] [],fr 5<|.list [],.for_ (.one 6) .seq [(.idx d8 io)] AG [6,7],.iff (hs iM mO) [.ret<|.call 24 [mz,gp]] [],.setI (.var 3) fK<|sc (.idx (.pl<|.var 3) fK) eC,.iff (.cmp .gt (.idx (.pl<|.var 3) fK)<|.idx (.pl<|.var 3) eC) [SG [jG,(.lit<|SC [84,111,111,76,111,110,103])]] [],fr 8<|.idx (.comp gi (.one 9) .seq [cT] [(hs (.idx gi fK) mz)]) fK,.ret<|.call 25 [cT,(.idx gB io),(.bi .dzip [(.idx gB eC),(.pl<|.var 5)]),(.pl<|.var 3)]],0,[]⟩
def Hm:Fn:=⟨3,3,[.ret<|.callw 25 [cT,(.idx pj io),(.bi .dzip [(.idx pj eC),d8])]<|.list [fK,fY]],0,[]⟩
def C5:Fn:=⟨1,2,[fr 1<|sc (.op2 .mul (.list [wR])<|.bi .int [(.isx 0 [aS] [x_HalfError,bH,bq,bN,bf,bj,bu,b5,cJ])])<|.op2 .mul (.list [Du])<|.bi .int [(.isx 0 [bH] [x_HalfError,aS,bq,bN,bf,bj,bu,b5,cJ])],fr 1<|sc (sc d8<|.op2 .mul (.list [HO])<|.bi .int [(.isx 0 [bq] [x_HalfError,aS,bH,bN,bf,bj,bu,b5,cJ])])<|.op2 .mul (.list [Dr])<|.bi .int [(.isx 0 [bN] [x_HalfError,aS,bH,bq,bf,bj,bu,b5,cJ])],fr 1<|sc (sc d8<|.op2 .mul (.list [Dt])<|.bi .int [(.isx 0 [bf] [x_HalfError,aS,bH,bq,bN,bj,bu,b5,cJ])])<|.op2 .mul (.list [HW])<|.bi .int [(.isx 0 [bj] [x_HalfError,aS,bH,bq,bN,bf,bu,b5,cJ])],fr 1<|sc (sc d8<|.op2 .mul (.list [(.lit<|SC [84,111,111,76,111,110,103])])<|.bi .int [(.isx 0 [bu] [x_HalfError,aS,bH,bq,bN,bf,bj,b5,cJ])])<|.op2 .mul (.list [(.lit<|SC [111,116,104,101,114])])<|.bi .int [(.isx 0 [b5,cJ] [x_HalfError,aS,bH,bq,bN,bf,bj,bu])],.iff (.bo false [(.cmp .ne zJ eC),(.not<|.isx 0 [x_HalfError,aS,bH,bq,bN,bf,bj,bu,b5,cJ] [])]) [.ret<|.lit<|SC [111,116,104,101,114]] [],.ret iM],0,[]⟩
def Hn:Fn:=⟨3,4,[.tryw [SG [ng,(.call 15 [cT,d8,fY])]] [x_HalfError,aS,bH,bq,bN,bf,bj,bu,b5,cJ] 3 27],0,[]⟩
abbrev wO:Ex:=SH 8
abbrev m8:Ex:=SH 12
abbrev OS:Ex:=.idx d8<|SF (sc (.op2 .fdiv cT<|SH 9) yu) m8
abbrev Ro:List St:=[fr 6<|.idx d8<|SF (sc (.op2 .fdiv cT<|SH 64) gp)<|.idx (.list [(SH 26),(SH 36)])<|.bi .int [(.cmp .gt gA fK)],.app (.var 4)<|sc (sc (.op2 .mul (.lit<|SC [109]) gA) oh)<|.op2 .mul (.lit<|SC [109])<|.op2 .sub (.op2 .sub fY eC) gA]
def zw:Fn:=⟨1,8,[.iff (hs (SF cT<|SH 9) wO) [fr 1<|.list [(.lit<|SC [105,102,115]),(.lit<|SC [108,105,115,116,120]),(.lit<|SC [112,108,117,115,50]),(.lit<|SC [114,101,102,117,115,101,115]),(.lit<|SC [114,101,115,116,101,100]),(.lit<|SC [100,111,119,110,115]),(.lit<|SC [115,97,109,101,49]),(.lit<|SC [106,111,105,110,115]),(.lit<|SC [111,118,101,114,115]),(.lit<|SC [102,105,114,115,116,115])],fr 1<|sc d8<|.list [(.lit<|SC [101,109,112,116,121,120]),(.lit<|SC [97,57])],.ret<|.comp OS (.one 7) .range [m8] []] [],fr 2<|sc eC<|SF cT wO,fr 3<|SF (.op2 .fdiv cT wO) fY,fr 1<|.lit<|SC [97,98,99,100,101,102,103,104,105,106,107,108,109,110,111,112,113,114,115,116,117,118,119,120,121,122,48,49,50,51,52,53,54,55,56,57],fr 4<|.list [],.for_ (.one 5) .range [m8] Ro [5,6],.ret iR],0,[]⟩
def Hr:Fn:=⟨2,3,[fr 2<|.list [fK,eC,io,(.tup []),(.tup [eC]),(.tup [io,fK]),(.tup [(.tup []),eC]),nZ],.iff (hs d8 eC) [fr 2<|.list [nZ,(.neg eC),(.tup [eC,io]),fK]] [],.iff (hs d8 io) [fr 2<|.list [(.tup [fK,(.tup [eC,(.tup [io])])]),(.neg sW),io,(.tup [])]] [],.ret<|.idx fY<|SF cT<|.bi .len [fY]],0,[]⟩
abbrev Dp:Ex:=SH 7
def C7:Fn:=⟨3,7,[fr 3<|SF (.op2 .fdiv cT HJ) wO,fr 4<|.call 17 [cT],.iff (.bo false [(hs d8<|.list []),(hs gA fK)]) [SG [qW,(.call 30 [iR,(SF (.bi .len [fY]) nZ)])]] [],fr 5<|.tup [yh,(.idx d8<|SF iR zJ)],.iff (.cmp .lt gA nZ) [.ret gp] [],fr 6<|.idx (.list [uW,sZ,sY,sY,uW])<|.op2 .sub gA nZ,.iff (.bo true [(hs gA Dp),(hs (SF (.op2 .fdiv iR Dp) nZ) fK)]) [SG [mO,sY,(.tup [(.tup [mO,sY,(.tup [gp])])])]] [],SG [mO,oh,(.tup [gp])]],0,[]⟩
abbrev OR:Ex:=.call 17 [(sc cT<|.op2 .mul (SH 7919) yu)]
abbrev Bk:List St:=[.app (.var 6)<|.call 35 [OR,fY,gA,iR,gp]]
noncomputable abbrev HN:Ex:=.bi .tuple [(.pl<|.var 6)]
def zv:Fn:=⟨6,8,[fr 6<|.list [],.for_ (.one 7) .range [d8] Bk [7],.ret HN],0,[]⟩
abbrev Jq:List St:=[fr 8 OR,.iff (.idx (.idx gp io) yu) [.app (.var 6)<|.call 31 [gB,gA,iR]] [.app (.var 6)<|.call 35 [gB,d8,fY,gA,iR]]]
def Dd:Fn:=⟨5,9,[fr 5<|.idx iR<|SF cT<|.bi .len [iR],fr 6<|.list [],.for_ (.one 7) .range [(.bi .len [(.idx gp eC)])] Jq [7,8],SG [Ji,(.idx gp fK),HN]],0,[]⟩
def LG:Fn:=⟨5,7,[fr 5<|.list [HR,(.lit<|SC [109,105,110,117,115]),LV,HQ,HP,LT,Ds,sZ,sY,wQ,uW,wS],fr 5<|.idx gp<|SF cT m8,fr 6 io,.iff (.cmp .isin gp<|.tup [sZ,sY,wQ,uW]) [fr 6 eC] [],.iff (hs gp wS) [fr 6<|.idx (.list [fK,eC,io,nZ,wO,HJ,eC,io])<|SF (.op2 .fdiv cT m8) wO] [],.iff (.cmp .gt oh nZ) [fr 1 fK] [],SG [mO,gp,(.call 32 [(.call 17 [cT]),oh,d8,fY,gA,iR])]],0,[]⟩
def Db:Fn:=⟨5,7,[fr 5<|SF (.op2 .fdiv cT nZ)<|SH 13,fr 6<|.call 17 [cT],.iff (.bo false [(hs d8 fK),(.cmp .lt gp nZ)]) [.iff (.bo true [(.cmp .ne fY<|.list []),(.cmp .gt (SF oh sW) fK)]) [SG [yh,(.idx fY<|SF (.op2 .fdiv oh sW)<|.bi .len [fY])]] [],SG [qW,(.call 18 [(.op2 .fdiv oh sW)])]] [],.iff (.cmp .lt gp wN) [.ret<|sc (.tup [sX])<|.call 32 [oh,nZ,zH,fY,gA,iR]] [],.iff (.cmp .lt gp<|SH 9) [.ret<|.call 34 [oh,zH,fY,gA,iR]] [],.iff (.cmp .lt gp m8) [.ret<|.call 33 [oh,zH,fY,gA,iR]] [],SG [zG,(.idx (.list [wR,Du,HO,Dr,Dt,HW])<|SF oh wN)]],0,[]⟩
abbrev OQ:Ex:=sc eC<|SF (.call 16 [cT,eC]) sW
abbrev HM:Ex:=sc io<|.var 3
abbrev OT:Ex:=.idx (.list [eC,io,nZ,io,fK,wN,nZ])<|SF iR Dp
abbrev PF:List St:=[fr 8<|hs (SF (.op2 .fdiv iR<|.idx (.list [Dp,(SH 14),(SH 28),(SH 56),(SH 112),(SH 224)]) yu) io) eC,.app (.var 6)<|.bo true [gB,(.cmp .lt (.cnt 6 true) io)]]
def zy:Fn:=⟨1,10,[fr 1<|.call 29 [(.call 16 [cT,fK])],fr 2<|.list [],.for_ (.one 3) .range [OQ] [fr 4<|.call 16 [cT,HM],fr 5 OT,fr 6<|.list [],.for_ (.one 7) .range [gp] PF [7,8],.app (.var 2)<|.tup [(.idx d8 gA),(.bi .tuple [(.comp (.idx d8<|SF (sc HM gi) m8) (.one 9) .range [gp] [])]),HN]] [3,4,5,6,7,8],.ret fY],0,[]⟩
abbrev LX:Ex:=.bi .len [gp]
abbrev xF:List St:=[.asg (.tup [4,5,6])<|.idx d8 gA,fr 7<|.comp (.idx gp mP) (.one 12) .range [LX] [(.idx oh mP)],fr 8<|.call 17 [(sc (.op2 .mul (.call 16 [cT,(sc wN gA)])<|SH 977) gA)],fr 9<|.call 35 [gB,(sc eC<|SF (.op2 .fdiv (.call 16 [cT,(SH 10)])<|sc gA eC) nZ),(.bi .list [gp]),yu,d8],.iff (.bo true [(.cmp .gt (SF (.op2 .fdiv (.call 16 [cT,(SH 11)])<|sc gA eC) nZ) fK),(.cmp .gt LX fK)]) [fr 10<|.call 17 [(sc gB<|SH 31)],fr 11<|.tup [yh,(.idx gp<|SF dl LX)],.iff (hs (SF (.op2 .fdiv dl wO) io) eC) [fr 11<|.tup [mO,wQ,(.tup [lz])]] [],fr 9<|.tup [sX,lz,gi,(.call 35 [dl,io,(.bi .list [gp]),yu,d8])]] [],.app (.var 2)<|.tup [iR,gp,gi]]
def uP:Fn:=⟨2,13,[fr 2<|.list [],.for_ (.one 3) .range [zJ] xF [3,4,5,6,7,8,9,10,11],.ret<|.bi .tuple [(.pl<|.var 2)]],0,[]⟩
abbrev Ry:List St:=[fr 4<|.call 16 [cT,(sc m8 gA)],.app (.var 2)<|.call 30 [iR,(SF OQ nZ)]]
def wI:Fn:=⟨2,5,[fr 2<|.list [],.for_ (.one 3) .range [d8] Ry [3,4],.ret<|.bi .tuple [(.pl<|.var 2)]],0,[]⟩
def uO:Fn:=⟨1,2,[.ret<|.bi .dict [(.comp (.tup [iM,(.idx d8 io)]) (.one 1) .seq [cT] [])]],0,[]⟩
abbrev LY:Ex:=.lit<|SC [120]
abbrev LU:Ex:=.lit<|SC [107]
abbrev HK:Ex:=.lit<|SC [109,97]
abbrev HL:Ex:=.lit<|SC [116,119]
def uN:Fn:=⟨1,12,[fr 1<|.call 16 [cT,(SH 19)],fr 2<|.tup [yh,LY],fr 3<|.tup [yh,LU],fr 4<|.tup [qW,(.op2 .sub Dv eC)],fr 5<|.list [(.tup [zG,Dt]),(.tup [mO,HQ,(.tup [fY,(.tup [qW,fK])])]),(.tup [Ji,HK,(.tup [fY,gA])]),fY,(.tup [qW,eC])],fr 5<|sc gp<|.list [(.tup [mO,sZ,(.tup [fY])]),(.tup [Ji,HL,(.tup [fY,(.tup [qW,eC])])]),(.tup [mO,HR,(.tup [iR,gA])])],fr 5<|sc gp<|.list [(.tup [mO,LV,(.tup [iR,(.tup [qW,io])])]),(.tup [mO,HP,(.tup [gA,fY])])],fr 5<|sc gp<|.list [(.tup [mO,Ds,(.tup [fY,(.tup [qW,(.op2 .mul (.tup [fK])<|SH 48)])])]),(.tup [mO,Ds,(.tup [gA,(.tup [qW,(.op2 .mul (.tup [fK])<|SH 49)])])])],fr 6<|.list [(.tup [mO,sZ,(.tup [gA])]),(.tup [mO,sY,(.tup [gA])]),(.tup [mO,uW,(.tup [gA])]),(.tup [zG,Dr]),gA],fr 6<|sc oh<|.list [(.tup [mO,sZ,(.tup [(.tup [mO,sY,(.tup [gA])])])]),(.tup [qW,nZ])],fr 7<|.idx gp<|SF d8 m8,fr 8<|.idx oh<|SF (.op2 .fdiv d8 m8) Dp,fr 9<|.tup [yh,(.lit<|SC [121])],fr 10<|.tup [yh,(.lit<|SC [110])],fr 11<|.list [(.tup [mO,HR,(.tup [gi,dl])]),(.tup [mO,wS,(.tup [dl,gi,dl])]),(.tup [mO,HQ,(.tup [gi,dl])]),(.tup [Ji,HK,(.tup [gi,dl])])],fr 11<|.idx lz<|SF (.op2 .fdiv d8<|SH 84) sW,.iff (hs (SF (.op2 .fdiv d8<|SH 336) io) eC) [fr 11<|.tup [sX,(.tup [mO,wQ,(.tup [dl])]),gi,lz]] [],SG [(.tup [HK,(.tup [LY,LU]),(.tup [Ji,HL,(.tup [yu,gB])])]),(.tup [HL,(.tup [(.lit<|SC [121]),(.lit<|SC [110])]),lz])]],0,[]⟩
def zB:Fn:=⟨1,2,[.iff (hs (SF (.call 16 [cT,(SH 18)]) sW) eC) [SG [(.list [(.tup [HK,(.tup [LY,LU]),(.tup [jG,ng])]),(.tup [HL,(.tup [(.lit<|SC [121]),(.lit<|SC [110])]),(.tup [jG,ng])])]),(.call 40 [cT])]] [],fr 1<|.call 36 [cT],SG [d8,(.call 37 [cT,d8])]],0,[]⟩
abbrev Rn:List St:=[fr 7<|.tup [mO,wS,(.tup [yu])]]
def wH:Fn:=⟨3,10,[fr 3<|.call 16 [cT,(SH 20)],.iff (.cmp .ne (SF gA wN) eC) [SG [d8,fY]] [],.asg (.tup [4,5,6]) iM,fr 7<|.tup [Ji,iR,(.bi .tuple [(.comp (.tup [yh,gi]) (.one 9) .seq [gp] [])])],.for_ (.one 8) .range [(sc eC<|SF (.op2 .fdiv gA wN)<|SH 17)] Rn [8],SG [(sc (.list [(.tup [(.lit<|SC [116,111,112]),gp,oh])]) d8),(sc (.tup [(.tup [(.lit<|SC [116,111,112]),gp,yu])]) fY)]],0,[]⟩
def OM:Fn:=⟨1,14,[.asg (.tup [1,2])<|.call 41 [cT],.asg (.tup [1,2])<|.call 42 [cT,d8,fY],fr 3<|.idx iM io,fr 4<|.call 38 [cT,(.bi .len [gA])],.for_ (.one 5) .range [(.bi .len [gA])] [.iff (.not<|.idx gA gp) [fr 4<|sc (sc (.slc iR pi gp)<|.tup [(.call 18 [(.call 16 [cT,(sc m8 gp)])])])<|.slc iR (sc gp eC) pi] []] [5],fr 6<|.call 14 [fY,(.call 39 [d8]),(.bi .tuple [(.comp (.idx iR mP) (.one 12) .range [(.bi .len [gA])] [(.idx gA mP)])])],.for_ (.one 7) .range [io] [fr 8<|.bi .tuple [(.comp (.idx iR oH) (.one 13) .range [(.bi .len [gA])] [(.not<|.idx gA oH)])],.for_ (.one 9) .seq [(.list [fK,nZ,(SF (.call 16 [cT,(SH 15)])<|SH 10)])] [fr 10<|.call 26 [fY,iR,gi],fr 11<|.call 28 [oh,gB,gi],.iff (.bo false [(.cmp .ne (.idx lz fK)<|.idx dl fK),(.not<|.call 19 [(.idx lz eC),(.idx dl eC)]),(.cmp .ne (.call 26 [oh,gB,gi]) dl)]) [.ret jG] []] [9,10,11],.for_ (.one 5) .range [(.bi .len [gA])] [.iff (.not<|.idx gA gp) [fr 4<|sc (sc (.slc iR pi gp)<|.tup [(.call 18 [(SF (.call 16 [cT,(sc (SH 16) gp)])<|SH 14)])])<|.slc iR (sc gp eC) pi] []] [5]] [5,7,8,9,10,11],.ret ng],0,[]⟩
abbrev GQ:List St:=[.setI (.var 0) dl<|.tup [lz,mP]]
def C3:Fn:=⟨10,14,[fr 0<|.bi .dict0 [],.for_ (.tup [10,11,12]) .seq [gB] GQ [10,11,12],fr 1 gi,fr 2<|.list [],.tab0 3],8,[0,1,2,3]⟩
def uK:Fn:=⟨10,12,[fr 10<|.tup [gB,gi],.iff (.tin 3 dl) [.tset 3 dl<|.bi .len [(.pl<|.var 2)],.app (.var 2) dl] [],.ret<|sc (.lit<|SC [102])<|.bi .str [(.tget 3 dl)]],8,[]⟩
abbrev OZ:List St:=[fr 14<|.mcall 49 [0,1,2,3,4,5,6,7] [oH,dl],.iff (.bo true [(hs (.idx yv fK) zG),(.not mP)]) [.ret yv] [],fr 12<|.bo false [mP,(.cmp .ne (.idx yv fK) qW)],.app (.var 11) yv]
def LE:Fn:=⟨11,17,[fr 11<|.list [],fr 12 jG,.for_ (.one 13) .seq [gi] OZ [13,14],.iff mP [SG [mO,gB,(.bi .tuple [(.pl<|.var 11)])]] [],.ret<|.call 12 [gB,(.comp (.idx rG eC) (.one 16) .seq [lz] [])]],8,[]⟩
abbrev O9:List St:=[fr 16<|.mcall 49 [0,1,2,3,4,5,6,7] [yv,dl],.iff (.bo true [(hs (.idx rG fK) zG),(.not oH)]) [.ret rG] [],.iff (.bo true [Jy,(hs (.idx rG fK) zG)]) [SG [mO,wS,(.bi .tuple [(sc (.pl<|.var 12)<|.list [rG])])]] [],.iff Jy [.app (.var 11)<|.idx rG eC] [.app (.var 12) rG,fr 13<|.bo false [oH,(.cmp .ne (.idx rG fK) qW)]]]
def C4:Fn:=⟨11,18,[fr 11<|.list [],fr 12<|.list [],fr 13 jG,.for_ (.tup [14,15]) .zip [gi,(.idx d8 gB)] O9 [14,15,16],SG [Ji,(.mcall 45 [0,1,2,3,4,5,6,7] [gB,(.bi .tuple [(.pl<|.var 11)])]),(.bi .tuple [(.pl<|.var 12)])]],8,[]⟩
def wF:Fn:=⟨10,12,[fr 10<|.mcall 49 [0,1,2,3,4,5,6,7] [(.idx gB eC),gi],.iff (hs (.idx dl fK) zG) [.ret dl] [],.iff (.cmp .ne (.idx dl fK) qW) [SG [sX,dl,(.mcall 49 [0,1,2,3,4,5,6,7] [(.idx gB io),gi]),(.mcall 49 [0,1,2,3,4,5,6,7] [(.idx gB nZ),gi])]] [],.iff (.bi (.isi .tup) [(.idx dl eC)]) [SG [zG,wR]] [],.iff (hs (.idx dl eC) fK) [.ret<|.mcall 49 [0,1,2,3,4,5,6,7] [(.idx gB nZ),gi]] [],.ret<|.mcall 49 [0,1,2,3,4,5,6,7] [(.idx gB io),gi]],8,[]⟩
def C2:Fn:=⟨10,12,[fr 10<|.idx gB fK,.iff (.bo false [(hs dl qW),(hs dl zG)]) [.ret gB] [],.iff (hs dl yh) [.iff (.cmp .isin (.idx gB eC) gi) [SG [qW,(.idx gi<|.idx gB eC)]] [],.ret gB] [],.iff (hs dl sX) [.ret<|.mcall 48 [0,1,2,3,4,5,6,7] [gB,gi]] [],.iff (hs dl mO) [.ret<|.mcall 46 [0,1,2,3,4,5,6,7] [(.idx gB eC),(.idx gB io),gi]] [],.ret<|.mcall 47 [0,1,2,3,4,5,6,7] [(.idx gB eC),(.idx gB io),gi]],8,[]⟩
def sQ:Fn:=⟨9,21,[.asg (.tup [9,10])<|.idx (.pl<|.var 2) gB,.asg (.tup [11,12])<|.idx (.pl<|.var 0) gi,fr 13<|.idx d8 gi,fr 14<|.bi .dzip [(.comp M7 (.tup [17,18]) .zip [lz,oH] [M6]),dl],fr 15<|.bi .tuple [(.comp M5 (.tup [19,20]) .zip [lz,oH] [(.not M4)])],SG [(sc (.lit<|SC [102])<|.bi .str [gB]),Jy,(.mcall 49 [0,1,2,3,4,5,6,7] [mP,yv])]],8,[]⟩
def wD:Fn:=⟨10,14,[fr 0<|.bi .dict0 [],.for_ (.tup [10,11,12]) .seq [gB] GQ [10,11,12],fr 4 gi,fr 5 fK,fr 6<|.list [],fr 7<|.list []],8,[0,4,5,6,7]⟩
def uJ:Fn:=⟨11,12,[.app (.var 6)<|.tup [(.lit<|SC [108,111,111,107]),gi,(.bi .dzip [gB,dl])]],8,[]⟩
abbrev IX:List St:=[.app (.var 6)<|.tup [(.lit<|SC [108,111,111,107]),lz,gi]]
def wB:Fn:=⟨10,13,[fr 10<|.idx gB fK,.iff (hs dl qW) [.app (.var 7)<|.idx gB eC] [.iff (hs dl yh) [.app (.var 7)<|.idx gi<|.idx gB eC] [.iff (hs dl zG) [.exp<|.call 2 [(.idx gB eC)]] [.iff (hs dl sX) [.app (.var 6)<|.tup [dl,gB,gi],.app (.var 6)<|.tup [(.lit<|SC [108,111,111,107]),(.idx gB eC),gi]] [.app (.var 6)<|.tup [dl,gB,gi],.for_ (.one 11) .rev [(.idx gB io)] IX [11]]]]]],8,[]⟩
noncomputable abbrev AK:List St:=[.app (.var 9)<|.pop<|.var 7]
def uI:Fn:=⟨9,12,[fr 9<|.list [],.for_ (.one 10) .range [gB] AK [10],.rev<|.var 9,.ret gi],8,[]⟩
def sP:Fn:=⟨10,12,[fr 10<|.pop<|.var 7,.iff (.bi (.isi .tup) [dl]) [.raise aS] [],.iff (hs dl fK) [.app (.var 6)<|.tup [(.lit<|SC [108,111,111,107]),(.idx gB nZ),gi]] [.app (.var 6)<|.tup [(.lit<|SC [108,111,111,107]),(.idx gB io),gi]]],8,[]⟩
def wE:Fn:=⟨10,13,[fr 5<|sc gp eC,.iff (.cmp .gt gp iR) [.raise bu] [],.asg (.tup [10,11])<|.idx (.pl<|.var 0) gB,.exp<|.mcall 52 [0,1,2,3,4,5,6,7] [dl,lz,gi]],8,[5]⟩
def wz:Fn:=⟨8,12,[.asg (.tup [8,9,10])<|.pop<|.var 6,.iff (hs gB<|.lit<|SC [108,111,111,107]) [.exp<|.mcall 53 [0,1,2,3,4,5,6,7] [gi,dl]] [.iff (hs gB sX) [.exp<|.mcall 55 [0,1,2,3,4,5,6,7] [gi,dl]] [.iff (hs gB mO) [.app (.var 7)<|.call 8 [(.idx gi eC),(.mcall 54 [0,1,2,3,4,5,6,7] [(.bi .len [(.idx gi io)])])]] [.mst 56 [0,1,2,3,4,5,6,7] [5] [(.idx gi eC),(.mcall 54 [0,1,2,3,4,5,6,7] [(.bi .len [(.idx gi io)])])]]]]],8,[5]⟩
def P:Pr:=⟨[G0,wq,qQ,Ly],[uH,wJ,C1,zD,qq,LH,uL,De,LI,wK,zC,Hs,sO,C0,uM,OL,uR,C9,zt,C8,wG,Ho,uQ,zu,Dc,C6,Hm,C5,Hn,zw,Hr,C7,zv,Dd,LG,Db,zy,uP,wI,uO,uN,zB,wH,OM,C3,uK,LE,C4,wF,C2,sQ,wD,uJ,wB,uI,sP,wE,wz]⟩
noncomputable def nss:List Sd:=[(["thing","room","is_number","left","part"] :Sd),(["thing"] :Sd),(["word"] :Sd),(["thing"] :Sd),(["operation","one","other"] :Sd),(["value"] :Sd),(["operation","value"] :Sd),(["value","other"] :Sd),(["operation","values"] :Sd),(["expression","parts","found","part"] :Sd),(["expression","known"] :Sd),(["program","sorting","name","parameters","body","known","call","part","is_known"] :Sd),(["operation","values","value"] :Sd),(["program","sorting","known","functions","triples","number","case"] :Sd),(["program","sorting","known"] :Sd),(["program","inputs","most"] :Sd),(["_law_script","_law_k"] :Sd),(["_law_pick","_law_more"] :Sd),(["_law_pick","_law_some"] :Sd),(["_law_found","_law_due","_law_k"] :Sd),(["_law_value_here"] :Sd),(["_law_value_here"] :Sd),(["_law_operation","_law_one","_law_other"] :Sd),(["_law_operation","_law_value_here"] :Sd),(["_law_operation","_law_values"] :Sd),(["_law_program_here","_law_form_here","_law_names_here","_law_count","_law_test","_law_values","_law_part","_law_one","_law_function"] :Sd),(["_law_program_here","_law_inputs_here","_law_most"] :Sd),(["_law_e","_law_words"] :Sd),(["_law_program_here","_law_inputs_here","_law_most","_law_e"] :Sd),(["_law_cell","_law_some","_law_size","_law_place","_law_found","_law_k","_law_sign"] :Sd),(["_law_pick","_law_way","_law_some"] :Sd),(["_law_pick","_law_known","_law_heads_here","_law_way","_law_more","_law_name","_law_word_here"] :Sd),(["_law_pick","_law_many","_law_deep","_law_names_here","_law_known","_law_heads_here","_law_found","_law_k"] :Sd),(["_law_pick","_law_deep","_law_names_here","_law_known","_law_heads_here","_law_head","_law_parts_here","_law_k","_law_more"] :Sd),(["_law_pick","_law_deep","_law_names_here","_law_known","_law_heads_here","_law_word_here","_law_many"] :Sd),(["_law_pick","_law_deep","_law_names_here","_law_known","_law_heads_here","_law_way","_law_more"] :Sd),(["_law_script","_law_names_here","_law_found","_law_k","_law_cell","_law_many","_law_wanted","_law_j","_law_known"] :Sd),(["_law_script","_law_heads_here","_law_program_here","_law_k","_law_name","_law_params","_law_wanted","_law_known","_law_pick","_law_body","_law_more","_law_test"] :Sd),(["_law_script","_law_many","_law_found","_law_k","_law_cell"] :Sd),(["_law_heads_here"] :Sd),(["_law_script","_law_cell","_law_x","_law_k","_law_great","_law_ones","_law_twos","_law_one","_law_two","_law_y","_law_n","_law_body"] :Sd),(["_law_script","_law_heads_here"] :Sd),(["_law_script","_law_heads_here","_law_program_here","_law_cell","_law_name","_law_params","_law_wanted","_law_body","_law_k"] :Sd),(["_law_script","_law_heads_here","_law_program_here","_law_wanted","_law_inputs_here","_law_k","_law_left","_law_turn","_law_others","_law_most","_law_due","_law_found"] :Sd),(["program","sorting","name","parameters","body"] :Sd),(["name","known","case"] :Sd),(["operation","parts","held","found","is_open","part","here"] :Sd),(["name","parts","held","known","others","is_open","part","is_known","here"] :Sd),(["expression","held","test"] :Sd),(["expression","held","word"] :Sd),(["number","name","known","parameters","body","flags","held","others"] :Sd),(["program","most","name","parameters","body"] :Sd),(["parameters","body","values"] :Sd),(["expression","held","word","part"] :Sd),(["many","found","turn"] :Sd),(["expression","held","test"] :Sd),(["name","values","parameters","body"] :Sd),(["word","expression","held"] :Sd)]
noncomputable def gls:Sd:=["GREAT","HEAVIEST","SINGLES","TAME"]
def cls:Sd:=[x_HalfError,aS,bH,bq,bN,bf,bj,bu,b5,cJ]
def hcs:Sd:=[aS,bH,bq,bN,bf,bj,x_HalfError]
def sb:List (Str×Sd×Sd):=[(aS,[aS],[x_HalfError,bH,bq,bN,bf,bj,bu,b5,cJ]),(bH,[bH],[x_HalfError,aS,bq,bN,bf,bj,bu,b5,cJ]),(bq,[bq],[x_HalfError,aS,bH,bN,bf,bj,bu,b5,cJ]),(bN,[bN],[x_HalfError,aS,bH,bq,bf,bj,bu,b5,cJ]),(bf,[bf],[x_HalfError,aS,bH,bq,bN,bj,bu,b5,cJ]),(bj,[bj],[x_HalfError,aS,bH,bq,bN,bf,bu,b5,cJ]),(bu,[bu],[x_HalfError,aS,bH,bq,bN,bf,bj,b5,cJ]),(⟨#[86,97,108,117,101,69,114,114,111,114]⟩,[x_HalfError,aS,bH,bq,bN,bf,bj,bu,b5,cJ],[])]
def sbt:List (Sd×Sd×Sd):=[([b5,cJ],[b5,cJ],[x_HalfError,aS,bH,bq,bN,bf,bj,bu])]
noncomputable def ans:Sd:=["functions","sorting","found","numbers","most","calls","tasks","told"]
end Lq
end
section
namespace Mv
open PySem
structure Q(W:Type) where
 bad:W
 b:Option Bool->(Bool->W)->W
 t:Bool->(Bool->W)->W
 v:Option Rv->(Rv->W)->W
 d:Option D->(D->W)->W
 l:Option Sb->(Sb->W)->W
 lp:dc dU->W->(Se dU->Fm->W)->W
 cp:dc Sb->W->(Se Sb->Fm->W)->W
 c:Option (Se Rv×List Slot)->(Se Rv->List Slot->W)->W
section
variable {W:Type}
noncomputable def up{α β:Type}(k:Se β->Fm->W)(f:α->Fm->W) :Se α->Fm->W
 | .error e,Y=>k (.error e) Y
 | .ok a,Y=>f a Y
noncomputable def fE{α:Type}(q:Q W)(x:Option α)(f:α->W) :W:=match x with
 | none=>q.bad
 | some a=>f a
noncomputable def eH(b:Bool)(x y:W) :W:=match b with
 | true=>x
 | false=>y
noncomputable def nI:Fm->(Fm->W)->W
 | [],k=>k []
 | s::Y,k=>nI Y λY=>k (s::Y)
noncomputable def Kr(q:Q W)(r:Rv)(x:W) :W:=match r with
 | .pl _=>q.bad
 | _=>x
def Ng(q:Q W)(s:Option Slot)(Y:Fm)(i:Nat)(k:Se Rv->Fm->W) :W:=match s with
 | some (.fz d)=>k (.ok<|.fz d) Y
 | some (.own d)=>nI (Y.set i<|.fz d) λY=>k (.ok<|.fz d) Y
 | _=>q.bad
noncomputable def RD(k:Se Sb->Fm->W)(r:Option D)(rs:Sb)(Y:Fm) :W:=match r with
 | none=>k (.ok rs) Y
 | some x=>k (.ok (x::rs)) Y
abbrev Jl(k:Se Sb->Fm->W)(r:Option D) :Se Sb->Fm->W:=up k<|RD k r
noncomputable def Qe(F:Fm->W)(k:Se dU->Fm->W)(r:dU)(Y:Fm) :W:=match r with
 | .next=>F Y
 | .ret r=>k (.ok<|.ret r) Y
def DG(q:Q W)(one:D->Fm->(Se (Option D)->Fm->W)->W)(x:Sb->Fm->dc Sb)(cl:Sg) :Sb->Fm->(Se Sb->Fm->W)->W
 | [],Y,k=>k (.ok [])<|clr Y cl
 | d::V,Y,k=>nI (clr Y cl) λY=>one d Y<|up k λr Y=>q.cp (x V Y) (DG q one x cl V Y<|Jl k r)<|Jl k r
abbrev LA(q:Q W)(x:Fm->dc dU)(u:Fm->W)(k:Se dU->Fm->W) :Se dU->Fm->W:=up k<|Qe (λY=>q.lp (x Y) (u Y) k) k
def Lz(q:Q W)(one:D->Fm->(Se dU->Fm->W)->W)(x:Sb->Fm->dc dU)(cl:Sg) :Sb->Fm->(Se dU->Fm->W)->W
 | [],Y,k=>k (.ok .next)<|clr Y cl
 | d::V,Y,k=>nI (clr Y cl) λY=>one d Y<|LA q (x V) (λY=>Lz q one x cl V Y k) k
def ym(q:Q W)(c:gR)(f:Nat)(as:Sg)(rs:List Rv)(Y:Fm)(k:Se Rv->Fm->W) :W:=
 eH c.hd q.bad (fE q (fG Y rs) λss=>eH (decide (as++gF rs).Nodup) (q.c (c.call f<|jz Y as++ss) λr outs=>nI (f9 (f6 Y as outs) rs ss<|outs.drop as.length) λY=>
   up k (λr Y=>fE q (gU r) λj0_=>k (.ok r) Y) r Y) q.bad)
def Jp(q:Q W)(c:gR)(f:Nat)(rs:List Rv)(r:Rv)(Y:Fm)(k:Se Rv->Fm->W) :W:=
 eH c.hd q.bad (fE q (gE rs) λV=>fE q (NL r) λd=>q.c (c.call f<|V.map .fz++[.own d]) λr j0_=>up k (λr Y=>fE q (gU r) λj0_=>k (.ok r) Y) r Y)
def QU(cl:Sg)(k:Se Rv->Fm->W)(o:Se Sb)(Y:Fm) :W:=match o with
 | .error e=>nI (clr Y cl) λY=>k (.error e) Y
 | .ok V=>k (.ok<|.own<|.list V) Y
mutual
noncomputable def wp(q:Q W)(c:gR) :Ex->Fm->(Se Rv->Fm->W)->W
 | .lit d,Y,k=>k (.ok<|.fz d) Y
 | .gl i,Y,k=>fE q c.glob[i]? λd=>k (.ok<|.fz d) Y
 | .var i,Y,k=>Ng q Y[i]? Y i k
 | .pl p,Y,k=>eH (lC Y p) (k (.ok<|.pl p) Y) q.bad
 | .tup es,Y,k=>wpL q c es Y<|up k λrs Y=>fE q (gE rs) λV=>k (.ok<|.fz<|.tuple V) Y
 | .list es,Y,k=>wpL q c es Y<|up k λrs Y=>fE q (gE rs) λV=>k (.ok<|.own<|.list V) Y
 | .op2 o a b,Y,k=>wp q c a Y<|up k λx Y=>wp q c b Y<|up k λy Y=>fE q (gV Y x) λd=>fE q (gV Y y) λe=>q.v (op2 o d e) λr=>Kr q r<|k (.ok r) Y
 | .neg a,Y,k=>wp q c a Y<|up k λx Y=>fE q (gV Y x) λd=>fE q (FX d) λe=>k (.ok<|.fz e) Y
 | .not a,Y,k=>wp q c a Y<|up k λx Y=>fE q (gV Y x) λd=>q.t (tD d) λb=>k (.ok<|.fz<|.bool<|!b) Y
 | .cmp o a b,Y,k=>wp q c a Y<|up k λx Y=>wp q c b Y<|up k λy Y=>fE q (gV Y x) λd=>fE q (gV Y y) λe=>q.b (bZ o d e) λb=>k (.ok<|.fz<|.bool b) Y
 | .cmp2 o p a b e,Y,k=>wp q c a Y (up k λx Y=>wp q c b Y (up k λy Y=>fE q (gU x) λd=>fE q (gU y) λd'=>q.b (bZ o d d') λt=>
   q.t t λt=>eH t (wp q c e Y<|up k λz Y=>fE q (gU z) λd''=>q.b (bZ p d' d'') λb=>k (.ok<|.fz<|.bool b) Y)<|k (.ok<|.fz<|.bool false) Y))
 | .bo j es,Y,k=>wpB q c j es Y k
 | .idx a i,Y,k=>wp q c a Y<|up k λx Y=>wp q c i Y<|up k λy Y=>fE q (gV Y x) λd=>fE q (gV Y y) λe=>q.d (jE d e) λr=>k (.ok<|.fz r) Y
 | .slc a lo hi,Y,k=>wp q c a Y (up k λx Y=>wp q c lo Y (up k λy Y=>wp q c hi Y (up k λz Y=>
   fE q (gV Y x) λd=>fE q (gV Y y) λl=>fE q (gV Y z) λh=>q.v (vE d l h) λr=>Kr q r<|k (.ok r) Y)))
 | .call f args,Y,k=>wpL q c args Y<|up k λrs Y=>ym q c f [] rs Y k
 | .callw f args e,Y,k=>wpL q c args Y<|up k λrs Y=>wp q c e Y<|up k λr Y=>Jp q c f rs r Y k
 | .mcall f as args,Y,k=>wpL q c args Y<|up k λrs Y=>ym q c f as rs Y k
 | .tin i e,Y,k=>wp q c e Y<|up k λr Y=>fE q (gU r) λx=>fE q (oO Y[i]?) λV=>q.t (iD x) λb=>eH b (q.t (dP x V).isNone λb=>k (.ok<|.fz<|.bool b) Y) q.bad
 | .tget i e,Y,k=>wp q c e Y<|up k λr Y=>fE q (gU r) λx=>fE q (oO Y[i]?) λV=>q.t (iD x) λb=>eH b (q.d (dP x V) λd=>k (.ok<|.fz d) Y) q.bad
 | .cnt i b,Y,k=>eH (lC Y<|.var i) (up k (λx Y=>fE q (gV Y x) λd=>q.v (DI d b) λr=>Kr q r<|k (.ok r) Y) (.ok<|.pl<|.var i) Y) q.bad
 | .isx i yes no,Y,k=>fE q (On Y[i]? yes no) λb=>k (.ok<|.fz<|.bool b) Y
 | .disp ks es,Y,k=>wpL q c es Y<|up k λrs Y=>fE q (gE rs) λV=>k (.ok<|.own<|.dict<|uX ks V) Y
 | .pop p,Y,k=>fE q (iU Y p) λo=>q.d (Bj o) λx=>fE q (NK x) λx=>nI (lZ Y p<|.list x.1) λY=>k (.ok<|.fz x.2) Y
 | .bi b args,Y,k=>eH (c.hd&&b.loops) q.bad<|wpL q c args Y<|up k λrs Y=>fE q (nU Y rs) λV=>q.v (pI b V) λr=>Kr q r<|k (.ok r) Y
 | .comp elt t it src conds,Y,k=>eH c.hd q.bad (wpL q c src Y (up k λrs Y=>fE q (gE rs) λV=>q.l (di it V) λSJ=>
   q.cp (dC c Y elt t conds SJ) (DG q (λd Y k=>fE q (asgT c.pin Y t<|.fz d) λY=>nI Y λY=>wpK q c conds Y<|up k λb Y=>eH b (wp q c elt Y<|up k λr Y=>fE q (gU r) λx=>k (.ok<|some x) Y)<|k (.ok none) Y)
    (λV Y=>dC c Y elt t conds V) (bX t) SJ Y (QU (bX t) k)) (QU (bX t) k)))
noncomputable def wpL(q:Q W)(c:gR) :List Ex->Fm->(Se (List Rv)->Fm->W)->W
 | [],Y,k=>k (.ok []) Y
 | e::es,Y,k=>wp q c e Y<|up k λr Y=>wpL q c es Y<|up k λrs Y=>k (.ok (r::rs)) Y
noncomputable def wpB(q:Q W)(c:gR)(j:Bool) :List Ex->Fm->(Se Rv->Fm->W)->W
 | [],_,_=>q.bad
 | e::es,Y,k=>wp q c e Y (up k λr Y=>fE q (gU r) λd=>match es with
   | []=>k (.ok r) Y
   | _::_=>q.t (tD d) λb=>eH (b==j) (wpB q c j es Y k)<|k (.ok r) Y)
noncomputable def wpK(q:Q W)(c:gR) :List Ex->Fm->(Se Bool->Fm->W)->W
 | [],Y,k=>k (.ok true) Y
 | e::es,Y,k=>wp q c e Y<|up k λr Y=>fE q (gV Y r) λd=>q.t (tD d) λb=>eH b (wpK q c es Y k)<|k (.ok false) Y
end
def Pm(q:Q W)(o:Option D)(Y:Fm)(p:Pl)(d:D)(k:Se dU->Fm->W) :W:=match o with
 | some (.list S)=>q.t (decide<|S.length<Sz) λb=>eH b (nI (lZ Y p<|.list<|S++[d]) λY=>k (.ok .next) Y) q.bad
 | _=>q.bad
def P8(q:Q W)(e:Str) :List (Str×Sd×D)->Fm->(Se dU->Fm->W)->W
 | [],_,_=>q.bad
 | p::G,Y,k=>eH (p.2.1.contains e) (k (.ok<|.ret<|.fz p.2.2) Y)<|P8 q e G Y k
def Rh(q:Q W)(c:gR)(e:Str)(yes:Sd)(i f:Nat)(Y:Fm)(k:Se dU->Fm->W) :W:=
 eH (decide<|yes.contains e=true/\c.pin.contains i=false) (fE q (c.word f e) λd=>nI (Y.set i .no) λY=>k (.ok<|.ret<|.fz<|.tuple [.bool false,d]) Y) q.bad
mutual
noncomputable def wpS(q:Q W)(c:gR) :St->Fm->(Se dU->Fm->W)->W
 | .asg t e,Y,k=>eH (c.hd&&t.isTup) q.bad<|wp q c e Y<|up k λr Y=>fE q (asgT c.pin Y t r) λY=>nI Y λY=>k (.ok .next) Y
 | .setI p i e,Y,k=>wp q c e Y (up k λr Y=>eH (iU Y p).isSome (wp q c i Y (up k λx Y=>fE q (gU r) λd=>fE q (gU x) λx=>fE q (iU Y p) λo=>
   q.d (AW o x d) λo'=>nI (lZ Y p o') λY=>k (.ok .next) Y)) q.bad)
 | .app p e,Y,k=>eH (KG<|iU Y p) (wp q c e Y<|up k λr Y=>fE q (gU r) λd=>Pm q (iU Y p) Y p d k) q.bad
 | .exp e,Y,k=>wp q c e Y<|up k λj0_ Y=>k (.ok .next) Y
 | .iff t a b,Y,k=>wp q c t Y<|up k λx Y=>fE q (gV Y x) λd=>q.t (tD d) λt=>eH t (wpSs q c a Y k)<|wpSs q c b Y k
 | .ret e,Y,k=>wp q c e Y<|up k λr Y=>Kr q r<|k (.ok<|.ret r) Y
 | .for_ t it src body SO,Y,k=>eH c.hd q.bad (wpL q c src Y (up k λrs Y=>fE q (gE rs) λV=>q.l (di it V) λSJ=>
   q.lp (dJ c Y t body SO SJ) (Lz q (λd Y k=>fE q (asgT c.pin Y t<|.fz d) λY=>nI Y λY=>wpSs q c body Y k) (λV Y=>dJ c Y t body SO V) SO SJ Y k) k))
 | .whl t body SO,Y,k=>q.lp (IN<|pY c Y t body SO) q.bad k
 | .raise x,Y,k=>eH c.hd q.bad<|k (.error x) Y
 | .tryx body G,Y,k=>wpSs q c body Y λo Y=>match o with
  | .ok x=>k (.ok x) Y
  | .error e=>P8 q e G Y k
 | .tryw body yes i f,Y,k=>eH c.hd q.bad (wpSs q c body Y λo Y=>match o with
  | .ok x=>k (.ok x) Y
  | .error e=>Rh q c e yes i f Y k)
 | .tab0 i,Y,k=>eH (c.pin.contains i) q.bad<|nI (Y.set i<|.tab []) λY=>k (.ok .next) Y
 | .tset i x e,Y,k=>wp q c e Y (up k λr Y=>wp q c x Y (up k λy Y=>fE q (gU r) λd=>fE q (gU y) λx=>fE q (oO Y[i]?) λV=>q.t (decide<|iD x=true/\dP x V=none/\V.length<Sz) λb=>eH b
   (nI (Y.set i<|.tab<|V++[(x,d)]) λY=>k (.ok .next) Y) q.bad))
 | .no,_,_=>q.bad
 | .rev p,Y,k=>fE q (iU Y p) λo=>q.d (NI o) λo=>nI (lZ Y p o) λY=>k (.ok .next) Y
 | .mst f as rb args,Y,k=>wpL q c args Y<|up k λrs Y=>eH (rb.any (c.pin.contains ·)) q.bad<|ym q c f as rs Y<|up k λj0_ Y=>k (.ok .next) Y
 | .new f as args body,Y,k=>eH c.hd q.bad<|wpL q c args Y<|up k λrs Y=>fE q (gE rs) λV=>q.c (c.call f<|iJ as++V.map .fz) λr outs=>eH (PL r) (nI (f6 (clr Y<|nx as) as outs) λY=>wpSs q c body Y λo Y=>nI (clr Y<|nx as) λY=>k o Y) q.bad
noncomputable def wpSs(q:Q W)(c:gR) :List St->Fm->(Se dU->Fm->W)->W
 | [],Y,k=>k (.ok .next) Y
 | s::ss,Y,k=>wpS q c s Y<|up k<|Qe (λY=>wpSs q c ss Y k) k
end
def Ri(q:Q W)(c:gR)(t:Ex)(body:List St)(SO:Sg)(n:Nat)(Y:Fm)(k:Se dU->Fm->W) :W:=
 nI (clr Y SO) λY=>wp q c t Y<|up k λx Y=>fE q (gV Y x) λd=>q.t (tD d) λb=>eH b (wpSs q c body Y<|LA q (λY=>pY c Y t body SO n) (λj0_=>q.bad) k)<|k (.ok .next) Y
def Nf(q:Q W)(c:gR)(t:ja)(body:List St)(SO:Sg)(SJ:Sb)(Y:Fm)(k:Se dU->Fm->W) :W:=
 Lz q (λd Y k=>fE q (asgT c.pin Y t<|.fz d) λY=>nI Y λY=>wpSs q c body Y k) (λV Y=>dJ c Y t body SO V) SO SJ Y k
def Aw(q:Q W)(c:gR)(elt:Ex)(t:ja)(conds:List Ex)(SJ:Sb)(Y:Fm)(k:Se Sb->Fm->W) :W:=
 DG q (λd Y k=>fE q (asgT c.pin Y t<|.fz d) λY=>nI Y λY=>wpK q c conds Y<|up k λb Y=>eH b (wp q c elt Y<|up k λr Y=>fE q (gU r) λx=>k (.ok<|some x) Y)<|k (.ok none) Y)
    (λV Y=>dC c Y elt t conds V) (bX t) SJ Y k
def RL(q:Q W)(P:Pr)(n:Nat)(f:Nat)(args:List Slot)(k:Option (Se Rv×List Slot)->W) :W:=
 fE q P.fns[f]? λfn=>eH (decide<|args.length=fn.np) (nI (args++List.replicate (fn.nv - fn.np) .no) λY=>wpSs q ⟨P.glob,cF P n,fQ fn.na fn.rb args,false,bT P⟩ fn.body Y λo Y=>k<|CV fn.na args<|some (o,Y)) q.bad
end
inductive It where
 | b (b:Bool) | v (r:Rv) | d (d:D) | l (l:Sb)
 | lp (o:Se dU×Fm) | cp (o:Se Sb×Fm) | c (r:Se Rv×List Slot)
noncomputable abbrev eE:=List<|Nat×It
noncomputable def It.gb:It->Option Bool | .b x=>some x | _=>none
noncomputable def It.gv:It->Option Rv | .v x=>some x | _=>none
noncomputable def It.gd:It->Option D | .d x=>some x | _=>none
noncomputable def It.gl:It->Option Sb | .l x=>some x | _=>none
noncomputable def It.glp:It->Option (Se dU×Fm) | .lp x=>some x | _=>none
noncomputable def It.gcp:It->Option (Se Sb×Fm) | .cp x=>some x | _=>none
noncomputable def It.gc:It->Option (Se Rv×List Slot) | .c x=>some x | _=>none
noncomputable def ask{α:Type}(g:It->Option α)(x:Option α)(dflt:eE->Prop)(f:α->eE->Prop) :eE->Prop
 | []=>dflt []
 | (n+1,i)::tp=>dflt ((n,i)::tp)
 | (0,i)::tp=>match g i with
  | none=>False
  | some y=>x=some y/\f y tp
noncomputable def qm{α:Type}(x:Option α)(f:α->eE->Prop) :eE->Prop:=match x with
 | none=>λj0_=>False
 | some a=>f a
noncomputable def askT(x:Bool)(f:Bool->eE->Prop) :eE->Prop
 | []=>f x []
 | (n+1,i)::tp=>f x ((n,i)::tp)
 | (0,i)::tp=>match i with
  | .b y=>x=y/\f y tp
  | _=>False
noncomputable def qT:Q (eE->Prop) where
 bad:=λj0_=>False
 b x f:=ask It.gb x (qm x f) f
 t x f:=askT x f
 v x f:=ask It.gv x (qm x f) f
 d x f:=ask It.gd x (qm x f) f
 l x f:=ask It.gl x (qm x f) f
 lp x u f:=ask It.glp x u λo=>f o.1 o.2
 cp x u f:=ask It.gcp x u λo=>f o.1 o.2
 c x f:=ask It.gc x (qm x λo=>f o.1 o.2) λo=>f o.1 o.2
noncomputable def Mt{α:Type}(m:dc α)(k:Se α->Fm->eE->Prop) :Prop:= ∃o Y tp,m=some (o,Y)/\k o Y tp
theorem Mt.ok{k:Se α->Fm->eE->Prop}(h:k (.ok a) Y tp) :Mt (some (.ok a,Y)) k:=⟨_,_,_,rfl,h⟩
theorem Mt.bind{α β:Type}{m:dc α}{k:Se β->Fm->eE->Prop}{f:α->Fm->eE->Prop}{g:Kt α β}
  (h:Mt m (up k f)) (H:∀a Y tp,f a Y tp->Mt (g.run a Y) k) :Mt (vm m) k:=by
 obtain⟨o,Y,tp,rfl,h⟩:=h;cases o with
 | error e=>exact⟨_,_,tp,rfl,h⟩
 | ok a=>exact H a Y tp h
theorem vS{W:Type} :∀(Y:Fm)(k:Fm->W),nI Y k=k Y:=by intro Y k;induction Y generalizing k with
 | nil=>exact rfl
 | cons s Y ih=>exact ih _
theorem oK{x:Option α}(h:fE qT x f tp) :∃a,x=some a/\f a tp:=by cases x with
 | none=>exact h.elim
 | some a=>exact⟨a,rfl,h⟩
theorem GJ{x:Option α}(h:qm x f tp) :∃a tp,x=some a/\f a tp:=by cases x with
 | none=>exact h.elim
 | some a=>exact⟨a,tp,rfl,h⟩
theorem D1{x:Option α}{u:eE->Prop}(h:ask g x u f tp) :(∃tp,u tp)\/ ∃a tp,x=some a/\f a tp:=by
 match tp,h with
 | [],h=>exact .inl ⟨_,h⟩
 | (n+1,i)::tp,h=>exact .inl ⟨_,h⟩
 | (0,i)::tp,h=>have h:(match g i with | none=>False | some y=>x=some y/\f y tp):=h;cases hg:g i with
  | none=>rw[hg]at h;exact h.elim
  | some y=>rw[hg]at h;exact .inr ⟨y,tp,h⟩
theorem ou{x:Option α}(h:ask g x (qm x f) f tp) :∃a tp,x=some a/\f a tp:=by
 rcases D1 h with⟨tp,h⟩ | h
 .exact GJ h
 .exact h
theorem Ix{x:Bool}(h:qT.t x f tp) :∃tp,f x tp:=by
 have h:askT x f tp:=h
 match tp,h with
 | [],h=>exact⟨_,h⟩
 | (n+1,i)::tp,h=>exact⟨_,h⟩
 | (0,.b y)::tp,h=>obtain⟨rfl,h⟩:=h;exact⟨_,h⟩
 | (0,.v _)::tp,h | (0,.d _)::tp,h | (0,.l _)::tp,h | (0,.lp _)::tp,h | (0,.cp _)::tp,h | (0,.c _)::tp,h=>exact h.elim
theorem O3{b:Bool}{x:eE->Prop}(h:eH b x qT.bad tp) :b=true/\x tp:=by cases b with
 | true=>exact⟨rfl,h⟩
 | false=>exact h.elim
def Im{β:Type}(k:Se β->Fm->eE->Prop)(F:eE->Prop)(m:dc β) :Prop:= ∀tp,F tp->Mt m k
section
variable {α β:Type}{k:Se β->Fm->eE->Prop}{F SD:eE->Prop}{m m':dc β}{a:β}{Y:Fm}{x:Option α}
theorem cq:Im k (k (.ok a) Y) (some (.ok a,Y)):=λtp h=>⟨_,_,tp,rfl,h⟩
theorem Cu{e:Str} :Im k (k (.error e) Y) (some (.error e,Y)):=λtp h=>⟨_,_,tp,rfl,h⟩
theorem ct:Im k qT.bad m:=λj0_ h=>h.elim
theorem bb{H:(Se α->Fm->eE->Prop)->eE->Prop}{q:dc α}(h1:∀k,Im k (H k) q)(h2:∀a Y,Im k (f a Y)<|g a Y) :Im k (H<|up k f) (@vm α β q ⟨g⟩):=λtp h=>by obtain⟨o,Y,tp,rfl,h⟩:=h1 _ tp h;cases o with
 | error e=>exact⟨_,_,tp,rfl,h⟩
 | ok a=>exact h2 a Y tp h
theorem du(H:∀a,Im k (f a)<|g a) :Im k (fE qT x f) (mo x g):=by cases x with
 | none=>exact ct
 | some a=>exact H a
theorem sI{w:It->Option α}(H:∀a,Im k (f a)<|g a) :Im k (ask w x (qm x f) f) (mo x g):=λtp h=>by obtain⟨a,tp,h1,h'⟩:=ou h;subst h1;exact H a tp h'
theorem x5{u:α->β} :Im k (fE qT x λa=>k (.ok<|u a) Y) (FR Y<|x.map u):=by cases x with
 | none=>exact ct
 | some a=>exact cq
theorem I1{w:It->Option α}{u:α->β} :Im k (ask w x (qm x λa=>k (.ok<|u a) Y) λa=>k (.ok<|u a) Y) (FR Y<|x.map u):=λtp h=>by obtain⟨a,tp,h1,h'⟩:=ou h;subst h1;exact cq tp h'
theorem Ot{k:Se Rv->Fm->eE->Prop}{u:α->D} :Im k (fE qT x λa=>k (.ok<|.fz<|u a) Y) (Bt Y<|x.map λa=>.fz<|u a):=by cases x with
 | none=>exact ct
 | some a=>exact cq
theorem I0{k:Se Rv->Fm->eE->Prop}{w:It->Option α}{u:α->D} :Im k (ask w x (qm x λa=>k (.ok<|.fz<|u a) Y) λa=>k (.ok<|.fz<|u a) Y) (Bt Y<|x.map λa=>.fz<|u a):=λtp h=>by obtain⟨a,tp,h1,h'⟩:=ou h;subst h1;exact cq tp h'
theorem o9{b:Bool}(H:Im k (f b) m) :Im k (qT.t b f) m:=λtp h=>aR (Ix h) H
theorem hV{b:Bool}(H:Im k F m)(H':Im k SD m') :Im k (eH b F SD) (if b then m else m'):=by cases b with
 | true=>exact H
 | false=>exact H'
theorem QD{b j:Bool}(H:Im k F m)(H':Im k SD m') :Im k (eH (b==j) F SD) (if b=j then m else m'):=by revert b j;exact λ{b j}=>by cases b <;> cases j <;> first | exact H | exact H'
theorem GS{p:Prop}[Decidable p](H:Im k F m)(H':Im k SD m') :Im k (eH (decide p) F SD) (if p then m else m'):=by
 by_cases q:p
 .rw[if_pos q,ak q];exact H
 .rw[if_neg q,aA q];exact H'
theorem jZ(H:Im k (f Y) m) :Im k (nI Y f) m:=λtp h=>H tp<|vS Y f▸h
theorem zj{w:It->Option (Se β×Fm)}(H:Im k F m) :Im k (ask w m F λo=>k o.1 o.2) m:=λtp h=>by
 rcases D1 h with⟨tp,h⟩ | ⟨o,tp,h3,h⟩
 .exact H tp h
 .exact⟨o.1,o.2,tp,h3,h⟩
end
theorem IZ{α β:Type}{k:Se β->Fm->eE->Prop}{f:α->Fm->eE->Prop}{g:α->Fm->dc β}{o:Se α}{Y:Fm}(H:∀a Y,Im k (f a Y)<|g a Y) :Im k (up k f o Y) (@vm α β (some (o,Y)) ⟨g⟩):=by cases o with
 | error e=>exact Cu
 | ok a=>exact H a Y
theorem GT{k:Se Rv->Fm->eE->Prop}{x:Option Rv} :Im k (qT.v x λr=>Kr qT r<|k (.ok r) Y) (Bt Y x):=λtp h=>by obtain⟨r,tp,h1,h'⟩:=ou h;subst h1;cases r with
 | pl p=>exact h'.elim
 | fz d=>exact cq tp h'
 | own d=>exact cq tp h'
theorem Lo{k:Se Rv->Fm->eE->Prop} :Im k (Ng qT s Y i k) (JF s Y i):=by
 rcases s with _ | _ | d | d | _ | _
 .exact ct
 .exact ct
 .exact cq
 .exact jZ (Y:=Y.set i<|.fz d) cq
 .exact ct
 .exact ct
theorem Ov{k:Se Rv->Fm->eE->Prop}{cl:Sg}{F:eE->Prop}(H:Im (QU cl k) F m) :Im k F (va cl m λV Y=>some (.ok<|.own<|.list V,Y)):=λtp h=>by obtain⟨o,Y,tp,rfl,h⟩:=H tp h;cases o with
 | error e=>exact jZ Cu tp h
 | ok V=>exact cq tp h
theorem Ls{k:Se dU->Fm->eE->Prop}{p:Pl}{d:D} :Im k (Pm qT o Y p d k) (Mo o Y p d):=by
 rcases o with _ | o
 .exact ct
 .cases o with
  | list S=>exact o9<|GS (jZ cq) ct
  | _=>exact ct
theorem Ou{k:Se Sb->Fm->eE->Prop}(r:Option D)(rs:Sb)(Y:Fm) :Im k (RD k r rs Y) (QT r rs Y):=by cases r with
 | none=>exact cq
 | some r=>exact cq
theorem x4{k:Se dU->Fm->eE->Prop}{F:Fm->eE->Prop}(H:∀Y,Im k (F Y)<|m Y)(r:dU)(Y:Fm) :Im k (Qe F k r Y) (Fa m r Y):=by cases r with
 | next=>exact H Y
 | ret r=>exact cq
theorem Lr{k:Se dU->Fm->eE->Prop} :Im k (Kr qT r<|k (.ok<|.ret r) Y) (Kx r Y):=by cases r with
 | pl p=>exact ct
 | fz d=>exact cq
 | own d=>exact cq
theorem ye{c:gR}{t:ja}(H:∀Y k,Im k (wpSs qT c body Y k)<|exSs c body Y)(SJ:Sb)(Y:Fm)(k:Se dU->Fm->eE->Prop) :
  Im k (Nf qT c t body SO SJ Y k) (dJ c Y t body SO SJ):=by
 induction SJ generalizing Y k with
 | nil=>exact cq
 | cons d V ih=>exact jZ<|bb (H:=λk=>fE qT (asgT c.pin (clr Y SO) t<|.fz d) λY=>nI Y λY=>wpSs qT c body Y k) (q:=mo (asgT c.pin (clr Y SO) t<|.fz d) λY=>exSs c body Y) (λk=>du λY=>jZ<|H Y k)<|x4 λY=>zj<|ih Y k
theorem uZ{c:gR}{t:ja}(H:∀Y k,Im k (wp qT c elt Y k)<|ev c elt Y)(H':∀Y k,Im k (wpK qT c conds Y k)<|evConds c conds Y)(SJ:Sb)(Y:Fm)(k:Se Sb->Fm->eE->Prop) :
  Im k (Aw qT c elt t conds SJ Y k) (dC c Y elt t conds SJ):=by
 induction SJ generalizing Y k with
 | nil=>exact cq
 | cons d V ih=>
  exact jZ (bb (H:=λk=>fE qT (asgT c.pin (clr Y<|bX t) t<|.fz d) λY=>nI Y λY=>wpK qT c conds Y<|up k λb Y=>eH b (wp qT c elt Y<|up k λr Y=>fE qT (gU r) λx=>k (.ok<|some x) Y)<|k (.ok none) Y)
   (q:=mo (asgT c.pin (clr Y<|bX t) t<|.fz d) λY=>bI (evConds c conds Y) λb Y=>if b then bI (ev c elt Y) λr Y=>FR Y ((gU r).map some) else some (.ok none,Y))
   (λk=>du λY=>jZ<|bb (H' Y) λb Y=>hV (bb (H Y) λr Y=>x5) cq)
   λr Y=>bb (H:=λk=>qT.cp (dC c Y elt t conds V) (Aw qT c elt t conds V Y k) k) (λk=>zj<|ih Y k)<|Ou r)
set_option maxRecDepth 4000
theorem pF{c:gR}{f:Nat}{as:Sg}{rs:List Rv}{Y:Fm}{k:Se Rv->Fm->eE->Prop} :Im k (ym qT c f as rs Y k) (u7 c f as rs Y):=
 hV ct (du λss=>GS (sI λo=>jZ<|IZ λr Y=>du λj0_=>cq) ct)
theorem DR{c:gR}{f:Nat}{rs:List Rv}{r:Rv}{Y:Fm}{k:Se Rv->Fm->eE->Prop} :Im k (Jp qT c f rs r Y k) (yn c f rs r Y):=
 hV ct (du λV=>du λd=>sI λo=>IZ λr Y=>du λj0_=>cq)
structure WL(c:gR)(es:List Ex) :Prop where
 l:∀Y k,Im k (wpL qT c es Y k)<|evs c es Y
 b:∀j Y k,Im k (wpB qT c j es Y k)<|evB c j es Y
 k:∀Y k,Im k (wpK qT c es Y k)<|evConds c es Y
theorem WL.nil(c:gR) :WL c []:=⟨λj0_ j1_=>cq,λj0_ j1_ j2_=>ct,λj0_ j1_=>cq⟩
theorem WL.cons{c:gR}{e:Ex}(h:∀Y k,Im k (wp qT c e Y k)<|ev c e Y)(H:WL c es) :WL c (e::es):=
 ⟨λY k=>bb (h Y) λr Y=>bb (H.l Y) λrs Y=>cq,
  λj Y k=>bb (h Y) λr Y=>du λd=>by
  cases es with
  | nil=>exact cq
  | cons e' es=>exact o9<|QD (H.b j Y k) cq,
  λY k=>bb (h Y) λr Y=>du λd=>o9<|hV (H.k Y k) cq⟩
theorem jw(c:gR)(e:Ex) :∀Y k,Im k (wp qT c e Y k) (ev c e Y):=
 Ex.rec (motive_1:=λe=> ∀Y k,Im k (wp qT c e Y k)<|ev c e Y) (motive_2:=WL c)
  (λd Y k=>cq)
  (λi Y k=>du λd=>cq)
  (λi Y k=>Lo)
  (λp Y k=>hV cq ct)
  (λes H Y k=>bb (H.l Y) λrs Y=>x5)
  (λes H Y k=>bb (H.l Y) λrs Y=>x5)
  (λo a b ha hb Y k=>bb (ha Y) λx Y=>bb (hb Y) λy Y=>du λd=>du λe=>GT)
  (λa ha Y k=>bb (ha Y) λx Y=>du λd=>Ot (u:=id))
  (λa ha Y k=>bb (ha Y) λx Y=>du λd=>o9 cq)
  (λo a b ha hb Y k=>bb (ha Y) λx Y=>bb (hb Y) λy Y=>du λd=>du λe=>I0)
  (λo p a b e ha hb he Y k=>bb (ha Y) λx Y=>bb (hb Y) λy Y=>du λd=>du λe=>sI λt=>o9<|hV (bb (he Y) λz Y=>du λd=>I1) cq)
  (λj es H Y k=>H.b j Y k)
  (λa i ha hi Y k=>bb (ha Y) λx Y=>bb (hi Y) λy Y=>du λd=>du λe=>I0 (u:=id))
  (λa lo hi ha hl hh Y k=>bb (ha Y) λx Y=>bb (hl Y) λy Y=>bb (hh Y) λz Y=>du λd=>du λl=>du λh=>GT)
  (λf args H Y k=>bb (H.l Y) λrs Y=>pF)
  (λb args H Y k=>hV ct<|bb (H.l Y) λrs Y=>du λV=>GT)
  (λelt t it src conds he G hc Y k=>hV ct<|bb (G.l Y) λrs Y=>du λV=>sI λSJ=>Ov<|zj (m:=dC c Y elt t conds SJ)<|uZ he hc.k SJ Y _)
  (λf as args H Y k=>bb (H.l Y) λrs Y=>pF)
  (λi e he Y k=>bb (he Y) λr Y=>du λx=>du λV=>o9<|hV (o9 cq) ct)
  (λi e he Y k=>bb (he Y) λr Y=>du λx=>du λV=>o9<|hV I1 ct)
  (λp Y k=>du λo=>sI λx=>du λx=>jZ cq)
  (λks es H Y k=>bb (H.l Y) λrs Y=>x5)
  (λi yes no Y k=>du λb=>cq)
  (λf args e H he Y k=>bb (H.l Y) λrs Y=>bb (he Y) λr Y=>DR)
  (λi b Y k=>bb (α:=Rv) (H:=λk=>eH (lC Y<|.var i) (k (.ok<|.pl<|.var i) Y) qT.bad) (q:=if lC Y (.var i) then some (.ok<|.pl<|.var i,Y) else none) (λk=>hV cq ct) λx Y=>du λd=>GT)
  (WL.nil c) (λe es h H=>H.cons h) e
theorem xk(c:gR)(es:List Ex) :WL c es:=by induction es with
 | nil=>exact WL.nil c
 | cons e es ih=>exact ih.cons<|jw c e
theorem JA{e:Str}{k:Se dU->Fm->eE->Prop}(G:List (Str×Sd×D)) :Im k (P8 qT e G Y k) (Hx e G Y):=by induction G with
 | nil=>exact ct
 | cons p G ih=>exact hV cq ih
theorem Jz(c:gR)(s:St) :∀Y k,Im k (wpS qT c s Y k) (jF c s Y):=
 St.rec (motive_1:=λs=> ∀Y k,Im k (wpS qT c s Y k)<|jF c s Y) (motive_2:=λs=> ∀Y k,Im k (wpSs qT c s Y k)<|exSs c s Y)
  (λt e Y k=>hV ct<|bb (jw c e Y) λr Y=>du λY=>jZ cq)
  (λp i e Y k=>bb (jw c e Y) λr Y=>hV (bb (jw c i Y) λx Y=>du λd=>du λx=>du λo=>sI λo=>jZ cq) ct)
  (λp e Y k=>hV (bb (jw c e Y) λr Y=>du λd=>Ls) ct)
  (λe Y k=>bb (jw c e Y) λr Y=>cq)
  (λt a b ha hb Y k=>bb (jw c t Y) λx Y=>du λd=>o9<|hV (ha Y k)<|hb Y k)
  (λe Y k=>bb (jw c e Y) λr Y=>Lr)
  (λt it src body SO H Y k=>hV ct<|bb ((xk c src).l Y) λrs Y=>du λV=>sI λSJ=>zj (m:=dJ c Y t body SO SJ)<|ye H SJ Y k)
  (λt body SO H Y k=>(zj (m:=IN<|pY c Y t body SO) ct))
  (λf as args body H Y k=>hV ct<|bb ((xk c args).l Y) λrs Y=>du λV=>sI λo=>hV (jZ λtp h=>by obtain⟨o,fr',tp,h4,h⟩:=H _ _ _ h;rw[h4];rw[vS]at h;exact⟨_,_,tp,rfl,h⟩) ct)
  (λx Y k=>hV ct Cu)
  (λbody G H Y k=>λtp h=>by obtain⟨o,Y,tp,h1,h⟩:=H _ _ _ h;rw[uT,h1];cases o with
   | error e=>exact JA G tp h
   | ok x=>exact cq tp h)
  (λbody yes i f H Y k=>by rw[uU];refine hV ct λtp h=>?_;obtain⟨o,Y,tp,h1,h⟩:=H _ _ _ h;rw[h1];cases o with
   | error e=>exact(GS (du λd=>jZ cq) ct:Im k (Rh qT c e yes i f Y k) (PN c e yes i f Y)) tp h
   | ok x=>exact cq tp h)
  (λp Y k=>du λo=>sI λo=>jZ cq)
  (λf as rb args Y k=>bb ((xk c args).l Y) λrs Y=>hV ct<|bb (λk=>pF) λj0_ Y=>cq)
  (λi Y k=>hV ct<|jZ cq)
  (λi x e Y k=>bb (jw c e Y) λr Y=>bb (jw c x Y) λz Y=>du λd=>du λx=>du λV=>o9<|GS (jZ cq) ct)
  (λY k=>ct)
  (λY k=>cq)
  (λs ss G H Y k=>bb (G Y)<|x4 λY=>H Y k)
  s
theorem rI(c:gR)(ss:List St) :∀Y k,Im k (wpSs qT c ss Y k) (exSs c ss Y):=by induction ss with
 | nil=>exact λY k=>cq
 | cons s ss ih=>exact λY k=>bb (Jz c s Y)<|x4 λY=>ih Y k
theorem ph(a b:Int) :qU (.int a) (.int b)=some (decide<|a=b):=by rw[OO];congr 1
theorem yo(a b:Str) :bZ .eq (.str a) (.str b)=some (decide<|a=b):=Mv.e_strD a b
theorem j9(a b:Int) :bZ .eq (.int a) (.int b)=some (decide<|a=b):=ph a b
theorem eQ(a b:Int) :bZ .eq (.int a) (.int b)=some (a==b):=rfl
theorem pG(a b:D) :bZ .ne a b=(qU a b).map (!·):=rfl
theorem DT(a b:Int) :bZ .lt (.int a) (.int b)=some (decide<|a<b):=rfl
theorem Is(a b:Int) :bZ .le (.int a) (.int b)=some (decide<|a<=b):=rfl
theorem tq(a b:Int) :bZ .gt (.int a) (.int b)=some (decide<|b<a):=rfl
theorem Mj(a b:Int) :bZ .ge (.int a) (.int b)=some (decide<|b<=a):=rfl
theorem dB(n:Int) :di .range [.int n]=if -1000000000<=n/\n<=(Sz:Int) then some (ji 0 n.toNat) else none:=rfl
section
variable {a b:Int}{p:Prop}[Decidable p]{k n:Nat}
theorem v5(h:a<b) :bZ .lt (.int a) (.int b)=some true:=congrArg some<|ak h
theorem lF(h:¬a<b) :bZ .lt (.int a) (.int b)=some false:=congrArg some<|aA h
theorem Lx(h:b<a) :bZ .gt (.int a) (.int b)=some true:=congrArg some<|ak h
theorem OG(h:¬b<a) :bZ .gt (.int a) (.int b)=some false:=congrArg some<|aA h
theorem eqT(h:a=b) :bZ .eq (.int a) (.int b)=some true:=(j9 a b).trans<|congrArg some<|ak h
theorem MW(h:¬a=b) :bZ .eq (.int a) (.int b)=some false:=(j9 a b).trans<|congrArg some<|aA h
theorem Qs(h:¬b=0) :op2 .mod (.int a) (.int b)=some (.fz<|.int<|a.fmod b):=if_neg h
theorem sq{c:Int}(e:b=c)(h:¬c=0) :op2 .mod (.int a) (.int b)=some (.fz<|.int<|a.fmod c):=by subst e;exact if_neg h
theorem Nr{a b:Str}(h:a=b) :bZ .eq (.str a) (.str b)=some true:=(yo a b).trans<|congrArg some<|ak h
theorem Nt{a b:Str}(h:¬a=b) :bZ .eq (.str a) (.str b)=some false:=(yo a b).trans<|congrArg some<|aA h
theorem Rz(h:b≠0/\b.natAbs<2 ^ 64) :op2 .fdiv (.int a) (.int b)=some (.fz<|.int<|a.fdiv b):=if_pos h
end
structure F where
 n:Nat
 it:It
 A:Prop
 pf:A
noncomputable abbrev F.b(n:Nat){x:Option Bool}{y:Bool}(h:x=some y) :F:=⟨n,.b y,x=some y,h⟩
noncomputable abbrev F.t(n:Nat){x y:Bool}(h:x=y) :F:=⟨n,.b y,x=y,h⟩
noncomputable abbrev F.v(n:Nat){x:Option Rv}{y:Rv}(h:x=some y) :F:=⟨n,.v y,x=some y,h⟩
noncomputable abbrev F.d(n:Nat){x:Option D}{y:D}(h:x=some y) :F:=⟨n,.d y,x=some y,h⟩
noncomputable abbrev F.l(n:Nat){x:Option Sb}{y:Sb}(h:x=some y) :F:=⟨n,.l y,x=some y,h⟩
noncomputable abbrev F.lp(n:Nat){x:dc dU}{y:Se dU×Fm}(h:x=some y) :F:=⟨n,.lp y,x=some y,h⟩
noncomputable abbrev F.cp(n:Nat){x:dc Sb}{y:Se Sb×Fm}(h:x=some y) :F:=⟨n,.cp y,x=some y,h⟩
noncomputable abbrev F.c(n:Nat){x:Option (Se Rv×List Slot)}{y:Se Rv×List Slot}(h:x=some y) :F:=⟨n,.c y,x=some y,h⟩
noncomputable def oN:List F->eE
 | []=>[]
 | f::fs=>(f.n,f.it)::oN fs
noncomputable def Af(R:Prop) :List F->Prop
 | []=>R
 | f::fs=>f.A/\Af R fs
theorem oC{R:Prop}(h:R) :∀fs,Af R fs:=by intro fs;induction fs with
 | nil=>exact h
 | cons f fs ih=>exact⟨f.pf,ih⟩
theorem Ip{P:Pr} :cF P (n+1) f args=(match P.fns[f]? with
  | none=>none
  | some fn=>if args.length=fn.np then CV fn.na args (exSs ⟨P.glob,cF P n,fQ fn.na fn.rb args,false,bT P⟩ fn.body<|args++List.replicate (fn.nv - fn.np) .no) else none):=rfl
theorem bB(fs:List F){P:Pr}{R:Option (Se Rv×List Slot)}
  (h:Af (R=R) fs=RL qT P n f args (λr j0_=>r=R) (oN fs):=by kernel_rfl) :cF P (n+1) f args=R:=by
 have h:=Eq.mp h<|oC rfl fs;obtain⟨fn,h1,h⟩:=oK h;obtain⟨h2,h⟩:=O3 h;rw[vS]at h;obtain⟨o,Y,tp,h3,h⟩:=rI _ _ _ _ _ h;rw[Ip,h1];dsimp only;rw[if_pos<|aF h2,h3];exact h
theorem gI(fs:List F){c:gR}{t:ja}{R:dc dU}
  (h:Af (R=R) fs=Nf qT c t body SO SJ Y (λo Y j0_=>some (o,Y)=R) (oN fs):=by kernel_rfl) :dJ c Y t body SO SJ=R:=by
 obtain⟨o,Y,tp,h3,h⟩:=ye (rI c body) _ _ _ _<|Eq.mp h<|oC rfl fs;rw[h3,h]
theorem JC{c:gR}{t:Ex}{k:Se dU->Fm->eE->Prop} :Im k (Ri qT c t body SO n Y k) (pY c Y t body SO<|n+1):=
 jZ (bb (H:=λk=>wp qT c t (clr Y SO)<|up k λx Y=>fE qT (gV Y x) λd=>qT.t (tD d) λb=>k (.ok b) Y) (q:=bI (ev c t<|clr Y SO) λr Y=>mo (gV Y r) λd=>some (.ok<|tD d,Y))
  (f:=λb Y=>eH b (wpSs qT c body Y<|LA qT (λY=>pY c Y t body SO n) (λj0_=>qT.bad) k)<|k (.ok .next) Y)
  (λk=>bb (jw c t _) λx Y=>du λd=>o9 cq) (λb Y=>by cases b with
   | false=>exact cq
   | true=>exact bb (rI c body Y)<|x4 λY=>zj ct))
theorem Na(fs:List F){c:gR}{t:Ex}{R:dc dU}
  (h:Af (R=R) fs=Ri qT c t body SO n Y (λo Y j0_=>some (o,Y)=R) (oN fs):=by kernel_rfl) :pY c Y t body SO (n+1)=R:=by
 obtain⟨o,Y,tp,h3,h⟩:=JC _<|Eq.mp h<|oC rfl fs;rw[h3,h]
theorem p9(fs:List F){c:gR}{t:ja}{R:dc Sb}
  (h:Af (R=R) fs=Aw qT c elt t conds SJ Y (λo Y j0_=>some (o,Y)=R) (oN fs):=by kernel_rfl) :dC c Y elt t conds SJ=R:=by
 obtain⟨o,Y,tp,h3,h⟩:=uZ (jw c elt) (xk c conds).k _ _ _ _<|Eq.mp h<|oC rfl fs;rw[h3,h]
end Mv
end
section
namespace Mv
open PySem
theorem kH{x:D}(h:keyDs (x::S)=true) :iX x=true/\keyDs S=true:=ao.mp h
theorem ze:keyDs S=true ↔ ∀x∈S,iX x=true:=by induction S with
 | nil=>exact⟨λj0_ j1_ h=>(bc h).elim,λj0_=>rfl⟩
 | cons x S ih=>exact⟨λh y hy=>(am.mp hy).elim (λe=>e▸(kH h).1)<|ih.mp (kH h).2 y,λh=>ao.mpr ⟨h x aa,ih.mpr λy hy=>h y<|ac _ hy⟩⟩
theorem kF{M:D->Prop}(hi:∀i,M<|.int i)(G:∀s,M<|.str s)(ht:∀S:Sb,keyDs S=true->(∀x∈S,M x)->M (.tuple S))(d:D) :iX d=true->M d:=
 PyData.rec (motive_1:=λd=>iX d=true->M d) (motive_2:=λV=>keyDs V=true-> ∀x∈V,M x) (motive_3:=λj0_=>True) (motive_4:=λj0_=>True)
  (λh=>Bool.noConfusion h) (λj0_ h=>Bool.noConfusion h) (λi j0_=>hi i) (λs j0_=>G s) (λj0_ j1_ h=>Bool.noConfusion h) (λS ih h=>ht S h<|ih h) (λj0_ j1_ h=>Bool.noConfusion h)
  (λj0_ j1_ h=>by exact nomatch h) (λx S a b h y hy=>(am.mp hy).elim (λe=>e▸a (kH h).1)<|b (kH h).2 y) trivial (λj0_ j1_ j2_ j3_=>trivial) (λj0_ j1_ j2_ j3_=>trivial) d
theorem Di(a b:Int) :PyData.eqv (.int a) (.int b)=(a==b):=by rw[PyData.eqv]
theorem Dh(a b:Str) :PyData.eqv (.str a) (.str b)=(a==b):=by rw[PyData.eqv]
theorem wM(a b:Sb) :PyData.eqv (.tuple a) (.tuple b)=PyData.eqvAll a b:=by rw[PyData.eqv]
theorem sU(x y:D)(S ys:Sb) :PyData.eqvAll (x::S) (y::ys)=(PyData.eqv x y&&PyData.eqvAll S ys):=by rw[PyData.eqvAll]
theorem sG(a:D)(ha:iX a=true) :∀b,iX b=true->PyData.eqv a b=true->a=b:=by
 refine kF (M:=λa=> ∀b,iX b=true->PyData.eqv a b=true->a=b) ?_ ?_ ?_ a ha
 .intro i b hb h;cases b with
  | int j=>rw[Di]at h;exact congrArg _<|cZ.mp h
  | str s=>rw[PyData.eqv]at h;exact tf h
  | tuple s=>rw[PyData.eqv]at h;exact tf h
  | _=>exact tf hb
 .intro i b hb h;cases b with
  | int j=>rw[PyData.eqv]at h;cases h
  | str s=>rw[Dh]at h;exact congrArg _<|cZ.mp h
  | tuple s=>rw[PyData.eqv]at h;cases h
  | _=>exact tf hb
 .intro S hx ih b hb h;cases b with
  | int j=>rw[PyData.eqv]at h;exact tf h
  | str s=>rw[PyData.eqv]at h;exact tf h
  | tuple ys=>rw[wM]at h;refine congrArg _ ?_;replace hb:keyDs ys=true:=hb;clear ha hx;induction S generalizing ys with
   | nil=>cases ys with
    | nil=>rfl
    | cons y ys=>rw[PyData.eqvAll]at h;exact tf h
   | cons x S IH=>cases ys with
    | nil=>rw[PyData.eqvAll]at h;exact tf h
    | cons y ys=>rw[sU,az]at h;exact Er (ih x aa y (kH hb).1 h.1)<|Er (IH (λz hz=>ih z<|ac _ hz) ys h.2 (kH hb).2) rfl
  | _=>cases hb
theorem jW(a:D)(ha:iX a=true) :PyData.eqv a a=true:=by refine kF (M:=λa=>PyData.eqv a a=true) (λi=>by rw[Di];exact cZ.mpr rfl) (λi=>by rw[Dh];exact cZ.mpr rfl) (λS hx ih=>?_) a ha;rw[wM];clear hx ha;induction S with
 | nil=>rw[PyData.eqvAll]
 | cons x S IH=>rw[sU,ih x aa];refine Er (IH λz hz=>ih z<|ac _ hz) ?_;rfl
theorem we{a b:D}(ha:iX a=true)(hb:iX b=true)(h:a≠b) :PyData.eqv a b=false:=by cases q:PyData.eqv a b with
 | false=>rfl
 | true=>exact absurd (sG a ha b hb q) h
theorem zW{d:D} :∀{V:Sb},d∈V->d.depth<=PyData.depthAll V:=by intro V;induction V with
 | nil=>intro h;exact nomatch h
 | cons x V IH=>
  intro hd;rcases am.mp hd with rfl | hd
  .exact nB _ _
  .exact af (IH hd) (lO _ _)
theorem BG(d:D)(h:iX d=true) :noDict d=true:=by refine kF (M:=λd=>noDict d=true) (λj0_=>rfl) (λj0_=>rfl) (λS hx ih=>?_) d h;clear hx;induction S with
 | nil=>rfl
 | cons x S IH=>exact ao.mpr ⟨ih x aa,IH λy hy=>ih y<|ac _ hy⟩
mutual
noncomputable def uD(w:World) :D->Int
 | .int i=>hashInt i
 | .str x=>hashStr w x
 | .tuple S=>reduceHash<|Builtin.Tuple.tupleHashOf<|hashDs w S
 | _=>0
noncomputable def hashDs(w:World) :Sb->Sm
 | []=>[]
 | x::S=>uD w x::hashDs w S
end
mutual
noncomputable def MX:D->Nat
 | .tuple S=>drDs S+1
 | _=>1
noncomputable def drDs:Sb->Nat
 | []=>0
 | x::S=>MX x+drDs S
end
section
variable {prog:Program}{w:World}{E:Sr}
theorem Cf(d:D)(hk:iX d=true) :∀(v:Value)(as:List Addr)(A:Around)(s:Shared)(Q:Int->Shared->Prop),Reads s.heap v d as->A.units+d.depth<cLine->Q (uD w d) {s with toks:=s.toks+MX d}->wpAny (model prog w) A (pyHash v) Q E s:=by
 refine kF (M:=λd=> ∀(v:Value)(as:List Addr)(A:Around)(s:Shared)(Q:Int->Shared->Prop),Reads s.heap v d as->A.units+d.depth<cLine->Q (uD w d) {s with toks:=s.toks+MX d}->wpAny (model prog w) A (pyHash v) Q E s) ?_ ?_ ?_ d hk
 .intro i v as A s Q x _ h;cases x;exact wpAny_pyHash_int h
 .intro i v as A s Q x _ h;cases x;exact wpAny_pyHash_str h
 .intro S _ ih v as A s Q x hu h;cases x with
  | @tuple a o O n _ as hg hc hd hw=>
   have hu:A.units+(PyData.depthAll S+1)<cLine:=hu;refine W.pyHash_slot (T:="tuple") ⟨_,hg,hc⟩ F.slot_tuple_hash F.entry_tuple_hash (F.args_tuple_hash_1 _) (beq_builtin_none _) (.inr (aL (aq _ _) hu)) ?_;show wpAny _ _ (Builtin.Tuple.tupleItemsOf (.ref a) >>= _) _ _ s
   refine ae<|wpAny_tupleItemsOf hg hd ?_;refine ae ?_;refine Er Array.forIn_toList.symm ?_;have lp:∀S,(∀x∈S, ∀(v:Value)(as:List Addr)(A:Around)(s:Shared)(Q:Int->Shared->Prop),Reads s.heap v x as->A.units+x.depth<cLine->Q (uD w x) {s with toks:=s.toks+MX x}->wpAny (model prog w) A (pyHash v) Q (λe s'=>E e s') s)-> ∀(O:Si)(as:List Addr)(A:Around)(s:Shared)(b:Array Int)(Q:Array Int->Shared->Prop),ReadsAll s.heap O S as->A.units+PyData.depthAll S<cLine->
     (∀b',b'.toList=b.toList++hashDs w S->Q b' {s with toks:=s.toks+drDs S})->
     wpAny (model prog w) A (forIn O b λx r=>do let h <- pyHash x;pure PUnit.unit;pure (ForInStep.yield<|r.push h)) Q E s:=by
    intro S;induction S with
    | nil=>intro _ O as A s b Q x _ h;cases x;exact au<|h b (aI _).symm
    | cons k S IH=>intro ih O as A s b Q x hu h;cases x with
     | cons x1 x2=>
      rw[jc];refine ae<|ae<|ih k aa _ _ A s _ x1 (aL (aG (nB _ _) _) hu) ?_;refine ae<|au<|au ?_;refine IH (λy hy=>ih y<|ac _ hy) _ _ A _ _ Q x2 (aL (aG (lO _ _) _) hu) λb' hb=>?_;have e:({s with toks:=s.toks+MX k+drDs S} :Shared)={s with toks:=s.toks+drDs (k::S)}:=by rw[dv];rfl
      exact e▸h b' (by refine Er hb ?_;rw[Array.toList_push,ah];rfl)
   refine lp S ih _ _ A.in1 s #[] _ hw (by rw[Around.in1_units];exact aL (Nat.le_of_eq (by rw[dv,cU 1])) hu) λb hb=>?_;show wpAny _ _ (retInt<|Builtin.Tuple.tupleHashOf b.toList) _ _ _
   exact Er hb<|ae<|wpAny_mkInt<|au ⟨_,_,rfl,h⟩
theorem zc{es ep}(ho:h.get? d0=some o)(hd:o.data = .dict es ep)(G:Heap.SameBut d0 h h')(d:D)(hk:iX d=true) :∀v as,Reads h v d as->Reads h' v d as:=by
 refine kF (M:=λd=> ∀v as,Reads h v d as->Reads h' v d as) ?_ ?_ ?_ d hk
 .intro i v as r;cases r;exact .int _ _
 .intro i v as r;cases r;exact .str _ _
 .intro S _ ih v as r;cases r with
  | @tuple a o' O n _ as hg hc hq hw=>
   have lp:∀S,(∀x∈S, ∀v as,Reads h v x as->Reads h' v x as)-> ∀O as,ReadsAll h O S as->ReadsAll h' O S as:=by intro S;induction S with
    | nil=>intro _ O as r;cases r;exact .nil
    | cons x S IH=>intro ih O as r;cases r with | cons r1 r2=>exact .cons (ih x aa _ _ r1)<|IH (λy hy=>ih y<|ac _ hy) _ _ r2
   refine .tuple (n:=n) ((G.2 a λe=>?_).trans hg) hc hq<|lp S ih _ _ hw;subst e;have ho:=hg▸ho;obtain rfl:=bO ho;have hd:=hq▸hd;exact nomatch hd
theorem y9(d:D)(hk:iX d=true) :∀(v:Value)(as:List Addr)(n:Nat)(s:Shared)(Q:Bool->Shared->Prop),Reads s.heap v d as->d.depth<=n->Q true s->wpAny (model prog w) A (eqIsQuiet n v) Q E s:=by
 refine kF (M:=λd=> ∀(v:Value)(as:List Addr)(n:Nat)(s:Shared)(Q:Bool->Shared->Prop),Reads s.heap v d as->d.depth<=n->Q true s->wpAny (model prog w) A (eqIsQuiet n v) Q E s) ?_ ?_ ?_ d hk
 .intro i v as n s Q x _ h;cases x;exact Er (eqIsQuiet_byValue _ rfl)<|au h
 .intro i v as n s Q x _ h;cases x;exact Er (eqIsQuiet_byValue _ rfl)<|au h
 .intro S hx0 ih v as n s Q x hu h;cases n with
  | zero=>exact(fH _ hu).elim
  | succ n=>cases x with
   | @tuple a o O m _ as hg hc hd hw=>
    unfold eqIsQuiet;refine ae<|wpAny_specialOf (⟨_,hg,hc⟩) F.slot_tuple_eq.lookup ?_;refine ae<|wpAny_isInstance (⟨_,hg,hc⟩) isSubtype_tuple_tuple ?_;simp only[Bool.not_true,gz,if_false];refine ae<|fg hg hd ?_;refine ae ?_;refine Er Array.forIn_toList.symm ?_;refine wpAny_forIn_list _ (λrest r s'=>r.1=none/\s'=s/\ ∃V bs,(∀d∈V,d∈S)/\ReadsAll s.heap rest V bs) _ ?_ ?_ _ _ ⟨rfl,rfl,S,_,λj0_ h=>h,hw⟩
    .rintro v rest r s' ⟨hr,rfl,V,bs,h1,h2⟩;cases h2 with
     | @cons _ _ d V as1 as2 r1 r2=>refine ae<|ih d (h1 d aa) _ _ n _ _ r1 (af (zW<|h1 d aa)<|cG hu) ?_;simp only[Bool.not_true,gz,if_false];exact au ⟨rfl,rfl,V,as2,λx hx=>h1 x<|ac _ hx,r2⟩
    .rintro ⟨r1,r2⟩ s' ⟨hr,rfl,_⟩;simp only at hr;subst hr;exact au h
end
structure Eg(h:Heap)(d:D)(a:Addr) :Prop where
 k:iX d=true
 l:d.canLay0=true
 n:d.depth<=8
 r:∃as,Reads h (.ref a) d as
open Classical in
def i6(prog:Program)(w:World) :HeapKind prog w D where
 is:=Eg
 hash:=uD w
 draws:=MX
 room A:=A.units+8<cLine
 inj:=λx y=>let ⟨_,r⟩:=x.r;let ⟨_,r'⟩:=y.r;(Reads.unique r _ _ r').1
 keeps:=λx ho hd G=>let ⟨_,r⟩:=x.r;⟨x.k,x.l,x.n,_,zc ho hd G _ x.k _ _ r⟩
 pyHash:=λ{A E s k a Q} hu x h=>let ⟨_,r⟩:=x.r;Cf _ x.k _ _ _ _ _ r (aL (aG x.n _) hu) h
 eqBool:=λ{A E s x y a b Q} hu p q h=>let ⟨_,r⟩:=p.r;let ⟨_,r'⟩:=q.r;SeqAt.eqBoolOverData prog w A E s _ _ x y _ _ Q r r' p.l q.l (aL (aG (af (ny _ _) p.n) _) hu) (by
  have e:PyData.eqv x y=decide (x=y):=by
   by_cases q':x=y
   .rw[ak q',q'];exact jW y q.k
   .rw[aA q'];exact we p.k q.k q'
  rw[e];exact h)
 quiet:=λx h=>let ⟨_,r⟩:=x.r;y9 _ x.k _ _ _ _ _ r x.n h
end Mv
end
section
namespace Mv
open PySem PyProof.Rows
class Hp where
 s0:Shared
 w:World
 B:Heap
 mg:Str->So
 mb:Str->So
variable [Hp]
noncomputable abbrev prog:Program:=Hq.p
noncomputable abbrev w:World:=Hp.w
noncomputable abbrev B:Heap:=Hp.B
noncomputable abbrev mg:Str->So:=Hp.mg
noncomputable abbrev mb:Str->So:=Hp.mb
noncomputable def lq(h:Heap)(a:Addr)(SN:Sq) :Prop:=(a==sysModules)=false/\h.DictOf (strKind prog w) a SN
theorem lq.at'(k:∀o,h.get? a=some o->h'.get? a=some o)(x:lq h a SN) :lq h' a SN:=
 ⟨x.1,let ⟨o,es,ep,ho,r⟩:=x.2;⟨o,es,ep,k o ho,r⟩⟩
theorem lq.live(x:lq h a SN) :∃o,h.get? a=some o:=let ⟨o,_,_,ho,_⟩:=x.2;⟨o,ho⟩
mutual
inductive dW(h:Heap)(Z:Ss) :Value->D->Prop
 | none:dW h Z .none .none
 | bool (b:Bool) :dW h Z (.bool b) (.bool b)
 | int (i:Int) (t:Tok) :dW h Z (.int i t) (.int i)
 | str (x:Str) (t:Tok) :PyData.strOk x=true->x.cps.size<=Sz->dW h Z (.str x t) (.str x)
 | list {a:Addr} {O:Si} {n:Nat} {V:Sb} :Z a->IsL h a O.toArray n->O.length<=Sz->RepAll h Z O V->dW h Z (.ref a) (.list V)
 | tuple {a:Addr} {O:Si} {n:Nat} {V:Sb} :Z a->IsT h a O.toArray n->O.length<=Sz->RepAll h Z O V->dW h Z (.ref a) (.tuple V)
 | dict {a:Addr} {SN:Sq} {V:Sj} :Z a->lq h a SN->SN.length<=Sz->RepKV h Z SN V->dW h Z (.ref a) (.dict V)
inductive RepAll(h:Heap)(Z:Ss) :Si->Sb->Prop
 | nil:RepAll h Z [] []
 | cons {v:Value} {O:Si} {d:D} {V:Sb} :dW h Z v d->RepAll h Z O V->RepAll h Z (v::O) (d::V)
inductive RepKV(h:Heap)(Z:Ss) :Sq->Sj->Prop
 | nil:RepKV h Z [] []
 | cons {k:Str} {v:Value} {SN:Sq} {d:D} {V:Sj} :PyData.strOk k=true->k.cps.size<=Sz->dW h Z v d->RepKV h Z SN V->RepKV h Z ((k,v)::SN) ((.str k,d)::V)
end
section
variable {h h':Heap}{Z Z':Ss}
theorem rU{P1:Value->D->Prop}{P2:Si->Sb->Prop}{P3:Sq->Sj->Prop}(h0:P1 .none .none)(hb:∀b,P1 (.bool b)<|.bool b)(hi:∀i t,P1 (.int i t)<|.int i)
  (G:∀(x:Str) t,PyData.strOk x=true->x.cps.size<=Sz->P1 (.str x t) (.str x)) (hl:∀{a:Addr}{O:Si}{n:Nat}{V:Sb},Z a->IsL h a O.toArray n->O.length<=Sz->P2 O V->P1 (.ref a) (.list V))
  (ht:∀{a:Addr}{O:Si}{n:Nat}{V:Sb},Z a->IsT h a O.toArray n->O.length<=Sz->P2 O V->P1 (.ref a) (.tuple V))
  (hd:∀{a:Addr}{SN:Sq}{V:Sj},Z a->lq h a SN->SN.length<=Sz->P3 SN V->P1 (.ref a) (.dict V)) (n2:P2 [] []) (c2:∀{v:Value}{O:Si}{d:D}{V:Sb},P1 v d->P2 O V->P2 (v::O) (d::V))
  (n3:P3 [] []) (c3:∀{k:Str}{v:Value}{SN:Sq}{d:D}{V:Sj},PyData.strOk k=true->k.cps.size<=Sz->P1 v d->P3 SN V->P3 ((k,v)::SN) ((.str k,d)::V)) :
  (∀{v:Value}{d:D},dW h Z v d->P1 v d)/\(∀{O:Si}{V:Sb},RepAll h Z O V->P2 O V)/\ ∀{O:Sq}{V:Sj},RepKV h Z O V->P3 O V:=
 have c2':∀{v:Value}{O:Si}{d:D}{V:Sb},dW h Z v d->RepAll h Z O V->P1 v d->P2 O V->P2 (v::O) (d::V):=λj0_ j1_ a b=>c2 a b;have hl':∀{a:Addr}{O:Si}{n:Nat}{V:Sb},Z a->IsL h a O.toArray n->O.length<=Sz->RepAll h Z O V->P2 O V->P1 (.ref a) (.list V):=λz g l j0_ e=>hl z g l e;have ht':∀{a:Addr}{O:Si}{n:Nat}{V:Sb},Z a->IsT h a O.toArray n->O.length<=Sz->RepAll h Z O V->P2 O V->P1 (.ref a) (.tuple V):=λz g l j0_ e=>ht z g l e;have hd':∀{a:Addr}{SN:Sq}{V:Sj},Z a->lq h a SN->SN.length<=Sz->RepKV h Z SN V->P3 SN V->P1 (.ref a) (.dict V):=λz g l j0_ e=>hd z g l e;have c3':∀{k:Str}{v:Value}{SN:Sq}{d:D}{V:Sj},PyData.strOk k=true->k.cps.size<=Sz->dW h Z v d->RepKV h Z SN V->P1 v d->P3 SN V->P3 ((k,v)::SN) ((.str k,d)::V):=λo l j0_ j1_ a b=>c3 o l a b
 ⟨λr=>dW.rec (motive_1:=λv d j0_=>P1 v d) (motive_2:=λO V j0_=>P2 O V) (motive_3:=λO V j0_=>P3 O V) h0 hb hi G hl' ht' hd' n2 c2' n3 c3' r,
  λr=>RepAll.rec (motive_1:=λv d j0_=>P1 v d) (motive_2:=λO V j0_=>P2 O V) (motive_3:=λO V j0_=>P3 O V) h0 hb hi G hl' ht' hd' n2 c2' n3 c3' r,
  λr=>RepKV.rec (motive_1:=λv d j0_=>P1 v d) (motive_2:=λO V j0_=>P2 O V) (motive_3:=λO V j0_=>P3 O V) h0 hb hi G hl' ht' hd' n2 c2' n3 c3' r⟩
theorem mU(hk:∀a o,Z a->h.get? a=some o->h'.get? a=some o)(hz:∀a,Z a->Z' a) :(∀{v:Value}{d:D},dW h Z v d->dW h' Z' v d)/\(∀{O:Si}{V:Sb},RepAll h Z O V->RepAll h' Z' O V)/\ ∀{O:Sq}{V:Sj},RepKV h Z O V->RepKV h' Z' O V:=
 rU .none .bool .int .str (λz g l r=>.list (hz _ z) (hk _ _ z g) l r) (λz g l r=>.tuple (hz _ z) (hk _ _ z g) l r) (λz g l r=>.dict (hz _ z) (g.at' λo=>hk _ o z) l r) .nil .cons .nil .cons
theorem dW.mono(hk:∀a o,Z a->h.get? a=some o->h'.get? a=some o)(hz:∀a,Z a->Z' a){v:Value}{d:D}(r:dW h Z v d) :dW h' Z' v d:=(mU hk hz).1 r
theorem RepAll.mono(hk:∀a o,Z a->h.get? a=some o->h'.get? a=some o)(hz:∀a,Z a->Z' a){O:Si}(r:RepAll h Z O V) :RepAll h' Z' O V:=(mU hk hz).2.1 r
theorem RepKV.mono(hk:∀a o,Z a->h.get? a=some o->h'.get? a=some o)(hz:∀a,Z a->Z' a){O:Sq}(r:RepKV h Z O V) :RepKV h' Z' O V:=(mU hk hz).2.2 r
theorem RepAll.ind{P:Si->Sb->Prop}(n:P [] [])(c:∀{v:Value}{O:Si}{d:D}{V:Sb},dW h Z v d->RepAll h Z O V->P O V->P (v::O) (d::V)) :∀{O:Si}{V:Sb},RepAll h Z O V->P O V:=by intro O x1 R;induction O generalizing x1 with
 | nil=>cases R;exact n
 | cons v O ih=>cases R with | cons a r=>exact c a r<|ih r
theorem RepKV.ind{P:Sq->Sj->Prop}(n:P [] [])(c:∀{k:Str}{v:Value}{O:Sq}{d:D}{V:Sj},PyData.strOk k=true->k.cps.size<=Sz->dW h Z v d->RepKV h Z O V->P O V->P ((k,v)::O) ((.str k,d)::V)) :∀{O:Sq}{V:Sj},RepKV h Z O V->P O V:=by intro O x1 R;induction O generalizing x1 with
 | nil=>cases R;exact n
 | cons _ O ih=>cases R with | cons o l a r=>exact c o l a r<|ih r
theorem RepKV.length{O:Sq}(r:RepKV h Z O V) :O.length=V.length:=RepKV.ind (P:=λO V=>O.length=V.length) rfl (λj0_ j1_ j2_ j3_ e=>congrArg (· + 1) e) r
theorem RepKV.get{O:Sq}{k:Str}(r:RepKV h Z O V) :(bU V k=none/\valueAt O k=none)\/ ∃v d,bU V k=some d/\valueAt O k=some v/\dW h Z v d:=by
 refine RepKV.ind (P:=λO V=>(bU V k=none/\valueAt O k=none)\/ ∃v d,bU V k=some d/\valueAt O k=some v/\dW h Z v d) (.inl ⟨rfl,rfl⟩) ?_ r;intro k' v SN d V _ _ a _ ih;by_cases q:k'=k
 .exact .inr ⟨v,d,by show(if k'=k then some d else bU V k)=some d;exact Er (if_pos q) rfl,by unfold valueAt;refine Er (List.find?_cons)<|Er (ak q) ?_;rfl,a⟩
 .have e:bU ((.str k',d)::V) k=bU V k:=by show(if k'=k then some d else bU V k)=_;exact Er (if_neg q) rfl
  have e':valueAt ((k',v)::SN) k=valueAt SN k:=by unfold valueAt;exact Er (List.find?_cons)<|Er (aA q) rfl
  exact Er e<|Er e' ih
theorem RepKV.setm{k:Str}{v:Value}{d:D}(rv:dW h Z v d){O:Sq}(r:RepKV h Z O V) :RepKV h Z (O.map λkv=>if kv.1=k then(kv.1,v) else kv) (pA V k d):=by
 refine RepKV.ind (P:=λO V=>RepKV h Z (O.map λkv=>if kv.1=k then(kv.1,v) else kv)<|pA V k d) .nil ?_ r;intro k' v' SN d' V o l a _ ih;refine Er ay ?_;show RepKV h Z _ ((.str k',if k'=k then d else d')::pA V k d)
 by_cases q:k'=k
 .exact Er (if_pos q) (Er (if_pos q)<|.cons o l rv ih)
 .exact Er (if_neg q) (Er (if_neg q)<|.cons o l a ih)
theorem RepKV.has{O:Sq}{k:Str}(r:RepKV h Z O V) :(O.any λkv=>decide<|kv.1=k)=(bU V k).isSome:=by
 refine RepKV.ind (P:=λO V=>(O.any λkv=>decide<|kv.1=k)=(bU V k).isSome) rfl ?_ r;intro k' v SN d V _ _ a _ ih;refine Er List.any_cons ?_;show _=(if k'=k then some d else bU V k).isSome
 by_cases q:k'=k
 .refine Er (if_pos q) (Er (ak q) ?_);rfl
 .refine Er (if_neg q) ?_;refine Er (aA q) ?_;rw[Bool.false_or];exact ih
theorem RepKV.app{k:Str}{v:Value}{d:D}(o:PyData.strOk k=true)(l:k.cps.size<=Sz)(rv:dW h Z v d){O:Sq}(r:RepKV h Z O V) :RepKV h Z (O++[(k,v)]) (V++[(.str k,d)]):=
 RepKV.ind (P:=λO V=>RepKV h Z (O++[(k,v)])<|V++[(PyData.str k,d)]) (.cons o l rv .nil) (λo' l' a j0_ e=>.cons o' l' a e) r
theorem RepKV.set{k:Str}{v:Value}{d:D}{O:Sq}(r:RepKV h Z O V)(o:PyData.strOk k=true)(l:k.cps.size<=Sz)(rv:dW h Z v d) :RepKV h Z (stored O k v) (f8 V k d):=by
 unfold stored f8;refine Er r.has ?_;split
 .exact r.setm rv
 .exact r.app o l rv
theorem zU(k:Str)(d:D) :∀V:Sj,(pA V k d).length=V.length:=by intro r;induction r with
 | nil=>exact rfl
 | cons p0 r ih=>obtain⟨x,y⟩:=p0;cases x <;> exact congrArg (· + 1)<|ih
theorem zK(k:Str)(d:D)(V:Sj) :(f8 V k d).length<=V.length+1:=by
 unfold f8;split
 .rw[zU];exact(Ln [V.length] (.w .x<|.p 1 .x) [] rfl)
 .simp
theorem oV:(∀{v:Value}{d:D},dW h Z v d->noDict d=true-> ∃as,Reads h v d as)/\(∀{O:Si}{V:Sb},RepAll h Z O V->noDicts V=true-> ∃as,ReadsAll h O V as)/\ ∀{O:Sq}{V:Sj},RepKV h Z O V->True:=by
 refine rU (λj0_=>⟨_,.none⟩) (λb j0_=>⟨_,.bool b⟩) (λi t j0_=>⟨_,.int i t⟩) (λx t j0_ j1_ j2_=>⟨_,.str x t⟩) (λj0_ g j1_ r e=>?_) (λj0_ g j1_ r e=>?_) (λj0_ j1_ j2_ j3_ e=>nomatch e) (λj0_=>⟨_,.nil⟩) (λa r e=>?_) trivial λj0_ j1_ j2_ j3_=>trivial
 .obtain⟨_,q⟩:=r e;exact⟨_,.list g rfl rfl q⟩
 .obtain⟨_,q⟩:=r e;exact⟨_,.tuple g rfl rfl q⟩
 .have Q:=ao.mp e;obtain⟨_,p⟩:=a Q.1;exact aR (r Q.2) λj0_ q=>(⟨_,.cons p q⟩)
theorem dW.reads{v:Value}{d:D}(r:dW h Z v d)(e:noDict d=true) :∃as,Reads h v d as:=oV.1 r e
theorem RepAll.reads{O:Si}(r:RepAll h Z O V)(e:noDicts V=true) :∃as,ReadsAll h O V as:=oV.2.1 r e
theorem nH:(∀{v:Value}{d:D},dW h Z v d->noDict d=true->d.canLay0=true)/\(∀{O:Si}{V:Sb},RepAll h Z O V->noDicts V=true->PyData.canLayAll0 V=true)/\ ∀{O:Sq}{V:Sj},RepKV h Z O V->True:=by refine rU (λj0_=>rfl) (λb j0_=>rfl) (λi t j0_=>rfl) (λx t o j0_ j1_=>o) (λj0_ g j1_ r e=>r e) (λj0_ g j1_ r e=>r e) (λj0_ j1_ j2_ j3_ e=>nomatch e) (λj0_=>rfl) (λa r e=>?_) trivial λj0_ j1_ j2_ j3_=>trivial;exact ao.mpr ⟨a (ao.mp e).1,r (ao.mp e).2⟩
theorem dW.canLay{v:Value}{d:D}(r:dW h Z v d)(e:noDict d=true) :d.canLay0=true:=nH.1 r e
theorem RepAll.canLay{O:Si}(r:RepAll h Z O V)(e:noDicts V=true) :PyData.canLayAll0 V=true:=nH.2.1 r e
theorem RepAll.length{O:Si}(r:RepAll h Z O V) :O.length=V.length:=RepAll.ind (P:=λO V=>O.length=V.length) rfl (λj0_ j1_ e=>congrArg (· + 1) e) r
theorem RepAll.append{O ws:Si}(r:RepAll h Z O V)(k:RepAll h Z ws es) :RepAll h Z (O++ws) (V++es):=RepAll.ind (P:=λO V=>RepAll h Z (O++ws)<|V++es) k (λa j0_ e=>.cons a e) r
theorem RepAll.reverse{O:Si}(r:RepAll h Z O V) :RepAll h Z O.reverse V.reverse:=RepAll.ind (P:=λO V=>RepAll h Z O.reverse V.reverse) .nil (λa j0_ e=>by refine Er rC<|Er rC ?_;exact e.append<|.cons a .nil) r
theorem RepAll.drop{O:Si}(n:Nat)(r:RepAll h Z O V) :RepAll h Z (O.drop n) (V.drop n):=
 RepAll.ind (P:=λO V=> ∀n,RepAll h Z (O.drop n)<|V.drop n) (λn=>by cases n <;> exact .nil) (λa r e n=>by cases n with | zero=>exact .cons a r | succ n=>exact e n) r n
theorem RepAll.take{O:Si}(n:Nat)(r:RepAll h Z O V) :RepAll h Z (O.take n) (V.take n):=
 RepAll.ind (P:=λO V=> ∀n,RepAll h Z (O.take n)<|V.take n) (λn=>by cases n <;> exact .nil) (λa r e n=>by cases n with | zero=>exact .nil | succ n=>exact .cons a<|e n) r n
theorem RepAll.get{O:Si}{k:Nat}{d:D}(r:RepAll h Z O V)(q:V[k]? = some d) :∃v,O[k]? = some v/\dW h Z v d:=
 RepAll.ind (P:=λO V=> ∀k d,V[k]? = some d-> ∃v,O[k]? = some v/\dW h Z v d) (λj0_ j1_ e=>bz e) (λa r ih k d e=>by cases k with
  | zero=>obtain rfl:=bO e;exact⟨_,rfl,a⟩
  | succ k=>exact ih k d e) r k d q
theorem RepAll.getV{O:Si}{k:Nat}{v:Value}(r:RepAll h Z O V)(q:O[k]? = some v) :∃d,V[k]? = some d/\dW h Z v d:=
 RepAll.ind (P:=λO V=> ∀k v,O[k]? = some v-> ∃d,V[k]? = some d/\dW h Z v d) (λj0_ j1_ e=>bz e) (λa r ih k d e=>by cases k with
  | zero=>obtain rfl:=bO e;exact⟨_,rfl,a⟩
  | succ k=>exact ih k d e) r k v q
theorem RepAll.set{O:Si}(k:Nat){v:Value}{d:D}(r:RepAll h Z O V)(q:dW h Z v d) :RepAll h Z (O.set k v) (V.set k d):=
 RepAll.ind (P:=λO V=> ∀k,RepAll h Z (O.set k v)<|V.set k d) (λj0_=>.nil) (λa r e k=>by cases k with | zero=>exact .cons q r | succ k=>exact .cons a<|e k) r k
theorem RepAll.rep{O:Si}(r:RepAll h Z O V) :∀n:Nat,RepAll h Z (List.replicate n O).flatten (List.replicate n V).flatten:=by intro n;induction n with
 | zero=>exact .nil
 | succ n ih=>simpa [List.replicate_succ] using RepAll.append r ih
end
inductive eR(h:Heap)(Z:Ss)(a:Addr) :D->Prop
 | list {O:Si} {n:Nat} {V:Sb} :IsL h a O.toArray n->O.length<=Sz->RepAll h Z O V->eR h Z a (.list V)
 | dict {SN:Sq} {V:Sj} :lq h a SN->SN.length<=Sz->RepKV h Z SN V->eR h Z a (.dict V)
theorem eR.mono{d:D}(hk:∀a o,Z a->h.get? a=some o->h'.get? a=some o)(hz:∀a,Z a->Z' a)(ha:∀o,h.get? a=some o->h'.get? a=some o) :eR h Z a d->eR h' Z' a d
 | .list g l r=>.list (ha _ g) l<|r.mono hk hz
 | .dict g l r=>.dict (g.at' ha) l<|r.mono hk hz
theorem eR.live{d:D} :eR h Z a d-> ∃o,h.get? a=some o
 | .list g _ _=>⟨_,g⟩
 | .dict g _ _=>g.live
theorem eR.rep{d:D}(x:eR h Z a d)(hz:∀a,Z a->Z' a)(ha:Z' a) :dW h Z' (.ref a) d:=by cases x with
 | list g l r=>exact .list ha g l<|r.mono (λj0_ j1_ j2_ e=>e) hz
 | dict g l r=>exact .dict ha g l<|r.mono (λj0_ j1_ j2_ e=>e) hz
noncomputable def KT(h:Heap)(Z:Ss) :List (D×Addr×Value)->Sj->Prop
 | [],[]=>True
 | x::S,p::V=>(p.1=x.1/\iD x.1=true/\dW h Z (.ref x.2.1) x.1/\dW h Z x.2.2 p.2)/\KT h Z S V
 | _,_=>False
theorem jk{k:D}(h:iD k=true) :iX k=true/\k.depth<=8:=by cases k with
 | tuple S=>exact⟨(ao.mp h).1,aF (ao.mp h).2⟩
 | _=>exact tf h
theorem dW.isKey{k:D}(o:iD k=true)(r:dW h Z (.ref a) k) :Eg h k a:=
 ⟨(jk o).1,r.canLay<|BG _ (jk o).1,(jk o).2,r.reads<|BG _ (jk o).1⟩
section
variable {h h':Heap}{Z Z':Ss}
theorem KT.mono(hk:∀a o,Z a->h.get? a=some o->h'.get? a=some o)(hz:∀a,Z a->Z' a) :∀{S:List (D×Addr×Value)}{V:Sj},KT h Z S V->KT h' Z' S V:=by intro S;induction S with
 | nil=>intro V r;cases V with | nil=>trivial | cons=>exact r.elim
 | cons x S ih=>intro V r;cases V with
  | nil=>exact r.elim
  | cons p V=>exact⟨⟨r.1.1,r.1.2.1,r.1.2.2.1.mono hk hz,r.1.2.2.2.mono hk hz⟩,ih r.2⟩
theorem KT.key:∀{S:List (D×Addr×Value)}{V:Sj},KT h Z S V-> ∀x∈S,Eg h x.1 x.2.1:=by intro S;induction S with
 | nil=>exact λj0_ j1_ m=>nomatch m
 | cons x S ih=>intro V r y m;cases V with
  | nil=>exact r.elim
  | cons p V=>exact(am.mp m).elim (λe=>e▸r.1.2.2.1.isKey r.1.2.1)<|ih r.2 y
theorem KT.app{k:D}{v:Value}{d:D}(o:iD k=true)(rk:dW h Z (.ref a) k)(rv:dW h Z v d) :∀{S:List (D×Addr×Value)}{V:Sj},KT h Z S V->KT h Z (S++[(k,a,v)]) (V++[(k,d)]):=by intro S;induction S with
 | nil=>intro V r;cases V with | nil=>exact⟨⟨rfl,o,rk,rv⟩,trivial⟩ | cons=>exact r.elim
 | cons x S ih=>intro V r;cases V with
  | nil=>exact r.elim
  | cons p V=>exact⟨r.1,ih r.2⟩
theorem KT.len:∀{S:List (D×Addr×Value)}{V:Sj},KT h Z S V->S.length=V.length:=by intro S;induction S with
 | nil=>intro V r;cases V with | nil=>rfl | cons=>exact r.elim
 | cons x S ih=>intro V r;cases V with
  | nil=>exact r.elim
  | cons p V=>exact congrArg (· + 1)<|ih r.2
open Classical in
inductive Ef(h:Heap)(Z:Ss)(k:D)(S:List (D×Addr×Value))(V:Sj) :Prop
 | no:dP k V=none->atKey S k=none->Ef h Z k S V
 | yes (p:Addr×Value) (d:D) :dP k V=some d->atKey S k=some p->dW h Z p.2 d->Ef h Z k S V
open Classical in
theorem KT.get{k:D}(o:iD k=true) :∀{S:List (D×Addr×Value)}{V:Sj},KT h Z S V->Ef h Z k S V:=by intro S;induction S with
 | nil=>intro V r;cases V with | nil=>exact .no rfl rfl | cons=>exact r.elim
 | cons x S ih=>intro V r;cases V with
  | nil=>exact r.elim
  | cons p V=>
   have e:dP k (p::V)=if PyData.eqv p.1 k=true then some p.2 else dP k V:=rfl
   have e':∀b,decide (x.1=k)=b->atKey (x::S) k=eH b (some x.2) (atKey S k):=λb q=>by unfold atKey;refine Er List.find?_cons ?_;rw[q];cases b <;> rfl
   by_cases q:x.1=k
   .refine .yes x.2 p.2 ?_ (e' true<|ak q) r.1.2.2.2;rw[e,r.1.1,q,if_pos<|jW k (jk o).1]
   .have f:PyData.eqv p.1 k=false:=by rw[r.1.1];exact we (jk r.1.2.1).1 (jk o).1 q
    have e:dP k (p::V)=dP k V:=by rw[e,f];rfl
    have e':=e' false<|aA q;cases ih r.2 with
    | no a b=>exact .no (e.trans a)<|e'.trans b
    | yes u d a b c=>exact .yes u d (e.trans a) (e'.trans b) c
end
open Classical in
inductive TabAt(h:Heap)(Z:Ss)(a:Addr)(V:Sj) :Prop
 | mk (S:List (D×Addr×Value)) :(a==sysModules)=false->h.DictOfH (i6 prog w) a S->S.length<=Sz->KT h Z S V->TabAt h Z a V
open Classical in
theorem TabAt.mono(hk:∀a o,Z a->h.get? a=some o->h'.get? a=some o)(hz:∀a,Z a->Z' a)(ha:∀o,h.get? a=some o->h'.get? a=some o)(t:TabAt h Z a V) :TabAt h' Z' a V:=by obtain⟨S,s,⟨o,es,ep,h1,h2,h3,h4,_,h6⟩,l,r⟩:=t;exact⟨S,s,⟨o,es,ep,ha o h1,h2,h3,h4,(r.mono hk hz).key,h6⟩,l,(r.mono hk hz)⟩
open Classical in
theorem TabAt.live(t:TabAt h Z a V) :∃o,h.get? a=some o:=by obtain⟨S,s,⟨o,es,ep,h1,_⟩,_⟩:=t;exact⟨o,h1⟩
end Mv
end
section
namespace Mv
open PySem PyProof.Rows
variable [Hp]
noncomputable def eX(h:Heap)(Z:Ss)(v:Value)(d:D) :Prop:=dW h Z v d\/ ∃a,v = .ref a/\eR h Z a d
section
variable {h h':Heap}{Z Z':Ss}{v:Value}
theorem dW.dat{d:D}(r:dW h Z v d) :eX h Z v d:=.inl r
inductive MN(v:Value)(i:Int) :Prop
 | mk (t:_) :v = .int i t->MN v i
inductive MI(v:Value)(x:Str) :Prop
 | mk (t:_) :v = .str x t->PyData.strOk x=true->x.cps.size<=Sz->MI v x
inductive MK(h:Heap)(Z:Ss)(v:Value)(V:Sb) :Prop
 | mk (a:Addr) (O:Si) (n:Nat) :v = .ref a->IsL h a O.toArray n->O.length<=Sz->RepAll h Z O V->MK h Z v V
inductive MH(h:Heap)(Z:Ss)(v:Value)(V:Sb) :Prop
 | mk (a:Addr) (O:Si) (n:Nat) :v = .ref a->IsT h a O.toArray n->O.length<=Sz->RepAll h Z O V->Z a->MH h Z v V
inductive ML(h:Heap)(Z:Ss)(v:Value)(V:Sj) :Prop
 | mk (a:Addr) (SN:Sq) :v = .ref a->lq h a SN->SN.length<=Sz->RepKV h Z SN V->ML h Z v V
noncomputable def MJ(h:Heap)(Z:Ss)(v:Value) :D->Prop
 | .none=>v = .none
 | .bool b=>v = .bool b
 | .int i=>MN v i
 | .str x=>MI v x
 | .list V=>MK h Z v V
 | .tuple V=>MH h Z v V
 | .dict V=>ML h Z v V
theorem eX.q{d:D}(r:eX h Z v d) :MJ h Z v d:=r.elim
 (λr=>dW.casesOn (motive_1:=λv d j0_=>MJ h Z v d) r rfl (λj0_=>rfl) (λj0_ t=>⟨t,rfl⟩) (λj0_ t o l=>⟨t,rfl,o,l⟩) (λj0_ g l r=>⟨_,_,_,rfl,g,l,r⟩) (λz g l r=>⟨_,_,_,rfl,g,l,r,z⟩) (λj0_ g l r=>⟨_,_,rfl,g,l,r⟩))
 λ⟨a,e,w⟩=>Er e<|eR.casesOn (motive:=λd j0_=>MJ h Z (.ref a) d) w (λg l r=>⟨_,_,_,rfl,g,l,r⟩) (λg l r=>⟨_,_,rfl,g,l,r⟩)
theorem eX.none(r:eX h Z v .none) :v = .none:=r.q
theorem eX.bool{b:Bool}(r:eX h Z v (.bool b)) :v = .bool b:=r.q
theorem eX.int(r:eX h Z v (.int i)) :MN v i:=r.q
theorem eX.str{x:Str}(r:eX h Z v (.str x)) :MI v x:=r.q
theorem eX.list(r:eX h Z v (.list V)) :MK h Z v V:=r.q
theorem eX.tuple(r:eX h Z v (.tuple V)) :MH h Z v V:=r.q
theorem eX.dict(r:eX h Z v (.dict V)) :ML h Z v V:=r.q
theorem eR.reads{d:D}(x:eR h Z a d)(e:noDict d=true) :∃as,Reads h (.ref a) d as:=by cases x with
 | list g l r=>obtain⟨as,q⟩:=r.reads e;exact⟨_,.list g rfl rfl q⟩
 | dict g l r=>exact tf e
theorem eX.reads{d:D}(r:eX h Z v d)(e:noDict d=true) :∃as,Reads h v d as:=by
 rcases r with r | ⟨a,rfl,r⟩
 .exact r.reads e
 .exact r.reads e
theorem eX.canLay{d:D}(r:eX h Z v d)(e:noDict d=true) :d.canLay0=true:=by
 rcases r with r | ⟨a,rfl,r⟩
 .exact r.canLay e
 .cases r with
  | list g l r=>rw[PyData.canLay0];exact r.canLay e
  | dict g l r=>exact tf e
end
theorem RepKV.isSome{O:Sq}{k:Str}(r:RepKV h Z O V) :(valueAt O k).isSome=(bU V k).isSome:=by rcases r.get (k:=k) with⟨h1,h2⟩ | ⟨v,d,h1,h2,_⟩ <;> exact Er h1 (Er h2 rfl) <;> rfl
inductive yr(Z:Ss)(h h':Heap) :Rv->Value->Prop
 | old {d:D} {v:Value} :dW h' Z v d->yr Z h h' (.fz d) v
 | new {a:Addr} {o:Obj} {d:D} :h.get? a=none->h'.get? a=some o->dW h' (λb=>Z b\/b=a) (.ref a) d->yr Z h h' (.fz d) (.ref a)
 | own {a:Addr} {d:D} :h.get? a=none->eR h' Z a d->yr Z h h' (.own d) (.ref a)
inductive Op(Z:Ss)(s:Shared)(r:Rv)(v:Value)(s':Shared) :Prop
 | mk (h':Heap) (tk:Nat) :s'={s with heap:=h',toks:=tk}->(∀b o,s.heap.get? b=some o->h'.get? b=some o)->yr Z s.heap h' r v->Op Z s r v s'
theorem ya(h:Heap) :h.get? h.objs.size=none:=by cases q:h.get? h.objs.size with
 | none=>rfl
 | some o=>exact absurd (br q)<|fN _
theorem pK{h:Heap}(o:Obj)(b:Addr)(x:Obj)(e:h.get? b=some x) :(h.push o).get? b=some x:=bP o e
section
variable {Z:Ss}{s:Shared}
theorem Op.val{d:D}{v:Value}(r:dW s.heap Z v d) :Op Z s (.fz d) v s:=⟨s.heap,s.toks,rfl,λj0_ j1_ e=>e,.old r⟩
theorem Op.valT{d:D}{v:Value}{tk:Nat}(r:dW s.heap Z v d) :Op Z s (.fz d) v {s with toks:=tk}:=⟨s.heap,tk,rfl,λj0_ j1_ e=>e,.old r⟩
theorem Op.bool{b:Bool} :Op Z s (.fz<|.bool b) (.bool b) s:=.val<|.bool b
theorem Op.int{t tk:Nat} :Op Z s (.fz<|.int i) (.int i t) {s with toks:=tk}:=.valT<|.int i t
theorem Op.newL{O:Si}(r:RepAll s.heap Z O V)(hl:O.length<=Sz) :Op Z s (.own (.list V)) (.ref s.heap.objs.size) {s with heap:=s.heap.push {cls:=.type "list",data:=.seq O.toArray n}}:=
 ⟨_,s.toks,rfl,pK _,.own (ya _)<|.list (bl _ rfl) hl<|r.mono (λa o j0_ e=>pK _ a o e) λj0_ z=>z⟩
theorem Op.newT{O:Si}(r:RepAll s.heap Z O V)(hl:O.length<=Sz) :Op Z s (.fz (.tuple V)) (.ref s.heap.objs.size) {s with heap:=s.heap.push {cls:=.type "tuple",data:=.seq O.toArray n}}:=
 ⟨_,s.toks,rfl,pK _,.new (ya _) (bl _ rfl)<|.tuple (.inr rfl) (bl _ rfl) hl<|r.mono (λa o j0_ e=>pK _ a o e) λj0_ z=>.inl z⟩
end
theorem dR:Sz=sizeLine:=by decide
section
variable {A:Around}{E:Sr}{s:Shared}{Z:Ss}{a b:Value}
theorem mX:fillsNumberSlot (.type "tuple") "mul" = pure false:=
 PySem.fillsNumberSlot_seq (id:="tuple.__mul__") (r:=some (.builtin "tuple.__rmul__")) F.slot_tuple_mul.lookup (by decide +kernel) F.slot_tuple_rmul.lookup (by decide +kernel)
theorem rS:seqRepeat? (.type "tuple") = pure (some (.builtin "tuple.__mul__")):=by unfold seqRepeat?;rw [PySem.seqSlot_of (T:="tuple") (name:="__mul__") (id:="tuple.__mul__") F.slot_tuple_mul.lookup (by decide +kernel),PySem.seqSlot_of (T:="tuple") (name:="__rmul__") (id:="tuple.__rmul__") F.slot_tuple_rmul.lookup (by decide +kernel)];rfl
theorem tP(x:Int)(t:Tok)(l:Addr)(SJ:Array Value)(n:Nat) :
  Meets (Builtin.«int.__rmul__» ⟨[.int x t,.ref l],[]⟩) (λj0_ R s=>IsT s.heap l SJ n/\R (.ok<|.ret Value.notImplemented) s):=
 .of_wp λprog w A R s h=>by obtain⟨hp,g,d,tk,os⟩:=s;obtain⟨hl,h⟩:=h;wp_walk;exact⟨_,rfl,h⟩
theorem lT(l:Addr)(SJ:Array Value)(n:Nat)(x:Int)(u:Tok)(hx:0<x)(hhi:x<=1000000000)(hc:¬(SJ.isEmpty||x==1)=true)(hz:SJ.size*x.toNat<=Sz) :
  Meets (Builtin.«tuple.__mul__» ⟨[.ref l,.int x u],[]⟩) (λj0_ R s=>IsT s.heap l SJ n/\R (.ok (.ret (.ref s.heap.objs.size))) {s with heap:=s.heap.push {cls:=.type "tuple",data:=.seq (List.foldl (λx1 x2=>x1 ++ x2) #[] (List.replicate x.toNat SJ))}}):=
 .of_wp λprog w A R s h=>by
  obtain⟨hp,g,d,tk,os⟩:=s;obtain⟨hl,h⟩:=h;have he:(SJ.size:Int)*x=((SJ.size*x.toNat:Nat) :Int):=by rw[Int.natCast_mul,dI (by exact(sB [] [x] 1 (.le (.c 0)<|.v 0) [(1,.le (.a (.c 0)<|.c 1)<|.v 0)] rfl hx))]
  have hne:SJ.isEmpty=false:=by cases q:SJ.isEmpty with
   | false=>rfl
   | true=>rw[q]at hc;exact absurd rfl hc
  have hsz:(List.foldl (λx1 x2=>x1++x2) #[] (List.replicate x.toNat SJ)).size<=sizeLine:=by rw[AutoSeq1.size_joined,<- dR,kh];simpa using hz
  wp_walk
  refine cR (aA (by simp;exact⟨(by omega),(by omega)⟩)) ?_
  wp_walk
  refine cR (aA hc) ?_
  wp_walk
  refine cR (aA (by rw[he];simp only[Sz]at hz;omega)) ?_
  wp_walk
  refine cR (aA (by rw[he];unfold Builtin.Tuple.tupleTooMany;rw[<- dR];simp only[gt_iff_lt,cC,pV];exact kr.mpr hz)) ?_
  wp_walk
  exact⟨_,rfl,h⟩
theorem ET(SJ:Si)(k:Nat) :List.foldl (λx1 x2=>x1++x2) #[] (List.replicate k SJ.toArray)=(List.replicate k SJ).flatten.toArray:=by
 have:=listMul_foldl SJ.toArray k #[]
 simpa using this
set_option tactic.hygienic true in
theorem intBits_le{x:Int}(h:x.natAbs<2 ^ 64) :Builtin.Int.intBits x<=64:=by
 unfold Builtin.Int.intBits;split
 .exact ba _
 .rename_i q;have hx:x.natAbs≠0:=by intro e;exact q (by simpa using e)
  exact(Nat.log2_lt hx).mpr h
theorem vZ{x z:Int}(h:uo x z=true) :IntMulOk x z:=by
 rcases fX.mp h with h | h
 .exact .of_left (intBits_le<|aF h)
 .exact .of_right (intBits_le<|aF h)
theorem rP{x z:Str}(h:PyData.strOk x=true)(k:PyData.strOk z=true) :PyData.strOk (x++z)=true:=by unfold PyData.strOk at *;refine Er Array.all_append<|Er h<|Er k ?_;rfl
theorem rT(n:Int)(S:List α) :(rep n S).length=S.length*n.toNat:=by unfold rep;refine Er nQ ?_;simp[kh]
theorem yC(S:Sg)(k:Nat)(SK:Sg) :(List.replicate k S.toArray).foldl (· ++ ·) SK.toArray=(SK++(List.replicate k S).flatten).toArray:=by induction k generalizing SK with
 | zero=>simp
 | succ k ih=>refine Er List.replicate_succ ?_;refine Er List.foldl_cons ?_;rw[List.append_toArray,ih,List.replicate_succ,List.flatten_cons,ah]
set_option tactic.hygienic true in
theorem EM(x:Str)(n:Int) :Txt.mul x n=⟨(rep n x.cps.toList).toArray⟩:=by
 obtain⟨⟨l⟩⟩:=x;unfold Txt.mul rep;split
 .rename_i h;have e:n.toNat=0:=by omega
  refine Er e ?_;rfl
 .rename_i h;split
  .rename_i q;rcases fX.mp q with q | q
   .have e:n=1:=by simpa using q
    subst e;simp
   .have e:l=[]:=by simpa [Str.length] using q
    subst e;simp
  .have:=yC l n.toNat []
   simpa using congrArg Str.mk this
theorem yG{x:Str}(n:Int)(h:PyData.strOk x=true) :PyData.strOk ⟨(rep n x.cps.toList).toArray⟩=true:=by
 unfold PyData.strOk at *;rw[<- Array.all_toList]at *;rw[aB]at *;intro c hc;have hc':c∈rep n x.cps.toList:=by exact hc
 unfold rep at hc';obtain⟨l,hl,hm⟩:=List.mem_flatten.mp hc';rw[List.eq_of_mem_replicate hl]at hm;exact h c hm
set_option tactic.hygienic true in
theorem Bx{x z:Int}(h:z.natAbs<2 ^ 64) :Builtin.divisionGoesByPylong x z=false:=by
 unfold Builtin.divisionGoesByPylong;have:(if (z==0)=true then 0 else z.natAbs.log2 / 30+1)<=300:=by
  split
  .exact ba _
  .rename_i q;have hz:z.natAbs≠0:=by intro e;exact q (by simpa using e)
   have:=(Nat.log2_lt hz).mpr h
   omega
 simp only;refine Er (aA (by exact(λmvo6=>(Lf [if (z==(0:Int))=true then(0:Nat) else z.natAbs.log2 / (30:Nat)+(1:Nat)] [Gl .x<|.c 300,Gl (.p 1<|.c 300) .x] rfl this mvo6)))) ?_;rfl
theorem y1{a b:Int}(h:y2 a b=some r) :uo a b=true/\ .fz (.int<|a*b)=r:=gQ h
set_option tactic.hygienic true in
theorem KN{op:Operator}{d e:D}(ho:op=(match o with | .add=>.Add | .sub=>.Sub | .mul=>.Mult | .fdiv=>.FloorDiv | .mod=>.Mod | .pow=>.Pow))(he:op2 o d e=some r)(ra:eX s.heap Z a d)(rb:eX s.heap Z b e) :
  wpAny (model prog w) A (binaryOp op a b) (Op Z s r) E s:=by
 subst ho;cases o with
 | add=>
  cases d <;> first | exact bz he | (cases e <;> first | exact bz he | skip)
  .obtain⟨t,rfl⟩:=ra.int;obtain⟨u,rfl⟩:=rb.int;obtain rfl:=bO he;exact add_int .int
  .obtain⟨t,rfl,o1,z1⟩:=ra.str;obtain⟨u,rfl,o2,z2⟩:=rb.str;obtain⟨hz,rfl⟩:=gQ he;exact SB.add (λt' k=>.valT<|.str _ t' (rP o1 o2) (by show(_++_:Array Nat).size<=_;rw[Array.size_append];exact hz)) (by rw[<- dR];exact hz)
  .obtain⟨l,O,n,rfl,hl,hn,R⟩:=ra.list;obtain⟨l',vs',n',rfl,hl',hn',R'⟩:=rb.list;obtain⟨hz,rfl⟩:=gQ he;refine P.add_list hl hl' ?_ (by rw[ax,ax,R.length,R'.length,<- dR];exact hz);rw[List.append_toArray];exact .newL (R.append R') (by rw[aj,R.length,R'.length];exact hz)
  .obtain⟨l,O,n,rfl,hl,hn,R,zl⟩:=ra.tuple;obtain⟨l',vs',n',rfl,hl',hn',R',zl'⟩:=rb.tuple;obtain⟨hz,rfl⟩:=gQ he;by_cases hv:O=[]
   .subst hv;cases R;exact concat_meets ⟨_,hl,rfl⟩ ⟨_,hl',rfl⟩ noFill_tuple_add seq_tuple_add PySem.F.slot_tuple_add PySem.F.entry_tuple_add (PySem.F.args_tuple_add_2 _ _)
     (AutoSeq1.tuple___add___tuple_tuple_0 l _ n l' vs'.toArray n' rfl) ⟨hl,hl',.val<|.tuple zl' hl' hn' R'⟩
   .by_cases hw:vs'=[]
    .subst hw;cases R';rw[aI];exact concat_meets ⟨_,hl,rfl⟩ ⟨_,hl',rfl⟩ noFill_tuple_add seq_tuple_add PySem.F.slot_tuple_add PySem.F.entry_tuple_add (PySem.F.args_tuple_add_2 _ _)
      (AutoSeq1.tuple___add___tuple_tuple_1 l O.toArray n l' _ n' (by simpa using hv) rfl) ⟨hl,hl',.val<|.tuple zl hl hn R⟩
    .refine P.add_tuple hl hl' (by simpa using hv) (by simpa using hw) ?_ (by rw[ax,ax,R.length,R'.length,<- dR];exact hz);rw[List.append_toArray];exact .newT (R.append R') (by rw[aj,R.length,R'.length];exact hz)
 | sub=>
  cases d <;> first | exact bz he | (cases e <;> first | exact bz he | skip)
  obtain⟨t,rfl⟩:=ra.int;obtain⟨u,rfl⟩:=rb.int;obtain rfl:=bO he;exact sub_int .int
 | mul=>
  cases d <;> first | exact bz he | (cases e <;> first | exact bz he | skip)
  .obtain⟨t,rfl⟩:=ra.int;obtain⟨u,rfl⟩:=rb.int;obtain⟨hz,rfl⟩:=y1 he;exact PyProof.Rows.mul_int .int<|vZ hz
  .obtain⟨t,rfl,o1,z1⟩:=ra.str;obtain⟨u,rfl⟩:=rb.int;rename_i x n;obtain⟨hz,rfl⟩:=gQ he;have hm:¬n<1->((n.toNat:Nat) :Int)=n:=λq=>dI<|(by omega);refine SB.mul ⟨by simp;exact⟨(by omega),(by omega)⟩,λq j0_=>?_,λq j0_=>?_⟩ λt' k=>?_
   .have h2:(x.length:Int)*n<=16777216:=by
     have:((x.cps.size*n.toNat:Nat) :Int)<=((16777216:Nat) :Int):=kr.mpr hz.2.2;rw[Int.natCast_mul,hm q]at this;exact this
    have h3:(x.length:Int)<=(2 ^ 63 - 1) / n:=Int.le_ediv_of_mul_le ((by omega)) (by omega);exact(λmvo20=>(qj [x.length] [((2:Int) ^ (63:Nat) - (1:Int)) / n] [(1,.le (.n<|.v 0)<|.v 0),(1,.le (.a (.v 0)<|.c 1)<|.n<|.v 0)] rfl h3 mvo20))
   .unfold Builtin.Str.tooLong;have h2:x.length*n.toNat<=16777216:=hz.2.2;rw[show sizeLine=16777216 from rfl];simp;exact h2
   .rw[EM];exact .valT<|.str _ t' (yG n o1) (by show(rep n x.cps.toList).toArray.size<=_;rw[ax,rT,Array.length_toList];exact hz.2.2)
  .obtain⟨l,O,n,rfl,hl,hn,R⟩:=ra.list;obtain⟨u,rfl⟩:=rb.int;rename_i x;obtain⟨hz,rfl⟩:=gQ he;have hz':O.toArray.size*x.toNat<=2 ^ 24:=by rw[ax,R.length];exact hz.2.2
   refine wpAny_binaryOp_repeat_ref (T:="list") (Sv:="int") (by decide) ⟨_,hl,rfl⟩ (λs'=>typeIs_int s' x u) noFill_list_mul PySem.F.fills_int_mul lu repeat_list PySem.F.slot_int_index.lookup
    (call_meets lu (typeIs_int s x u) PySem.F.entry_int_rmul (PySem.F.args_int_rmul_2 _ _) (lm_int_rmul_list_any x u l O.toArray n none #[])
     ⟨hl,rfl,⟨_,hl,rfl⟩,call_meets PySem.F.slot_list_mul ⟨_,hl,rfl⟩ PySem.F.entry_list_mul (PySem.F.args_list_mul_2 _ _)
      (lm_list_mul_any l O.toArray n none #[] x u (by simp[Builtin.List.listFitsIndex];exact⟨(by omega),(by omega)⟩) (by omega) (by simp[Builtin.List.listTooLong,sizeLine];omega))
      ⟨hl,?_⟩⟩)
   rw[listMul_foldl_if];exact .newL (R.rep _) (by rw[nQ];simp;rw[kh,R.length];exact hz.2.2)
  .obtain⟨l,O,n,rfl,hl,hn,R,zl⟩:=ra.tuple;obtain⟨u,rfl⟩:=rb.int;rename_i x;obtain ⟨hz,rfl⟩:=gQ he;refine wpAny_binaryOp_repeat_ref (T:="tuple") (Sv:="int") (by decide) ⟨_,hl,rfl⟩ (λs'=>typeIs_int s' x u) mX PySem.F.fills_int_mul lu rS PySem.F.slot_int_index.lookup
    (call_meets lu (typeIs_int s x u) PySem.F.entry_int_rmul (PySem.F.args_int_rmul_2 _ _) (tP x u l O.toArray n) ⟨hl,rfl,⟨_,hl,rfl⟩,?_⟩)
   have h1:O.length=1:=R.length.trans hz.1;have hk:x.toNat<=1000:=Int.toNat_le.mpr hz.2.2;have hc:¬(O.toArray.isEmpty||x==1)=true:=by
    intro hc;rcases fX.mp hc with q | q
    .have e:O=[]:=by simpa using q
     rw[e]at h1;exact nomatch h1
    .rw[cZ.mp q]at hz;exact absurd hz.2.1 (by decide)
   refine call_meets PySem.F.slot_tuple_mul ⟨_,hl,rfl⟩ PySem.F.entry_tuple_mul (PySem.F.args_tuple_mul_2 _ _) (lT l O.toArray n x u (Int.lt_of_lt_of_le (by decide) hz.2.1) (Int.le_trans hz.2.2 (by decide)) hc (by rw[ax,h1,Nat.one_mul];exact af hk (by decide))) ⟨hl,?_⟩;rw[ET];exact .newT (R.rep _) (by rw[nQ];simp;rw[h1,Nat.mul_one];exact af hk (by decide))
 | fdiv=>
  cases d <;> first | exact bz he | (cases e <;> first | exact bz he | skip)
  obtain⟨t,rfl⟩:=ra.int;obtain⟨u,rfl⟩:=rb.int;obtain⟨hz,rfl⟩:=gQ he;exact floordiv_int hz.1 .int<|.inl<|Bx hz.2
 | mod=>
  cases d <;> first | exact bz he | (cases e <;> first | exact bz he | skip)
  obtain⟨t,rfl⟩:=ra.int;obtain⟨u,rfl⟩:=rb.int;obtain⟨hz,rfl⟩:=PM he;exact mod_int hz .int
 | pow=>
  cases d <;> first | exact bz he | (cases e <;> first | exact bz he | skip)
  obtain⟨t,rfl⟩:=ra.int;obtain⟨u,rfl⟩:=rb.int;obtain⟨hz,rfl⟩:=gQ he;exact pow_int_small hz.1 (by omega) hz.2.2 .int
theorem EX(x z:Str) :(x==z)=(x.cps.toList==z.cps.toList):=by
 obtain⟨⟨l⟩⟩:=x;obtain⟨⟨k⟩⟩:=z;by_cases q:l=k
 .subst q;simp
 .have h1:((⟨⟨l⟩⟩ :Str)==⟨⟨k⟩⟩)=false:=by
   rw[iQ];intro e;apply q;injection e with e;injection e
  refine Er h1 ?_;symm;simpa using q
theorem mq{d e:D}{b:Bool}(h:qU d e=some b) :b=PyData.eqv d e/\(noDict d=true/\noDict e=true/\min d.depth e.depth<=64):=by
 have k:∀{a b:D}{x:Bool},(if mn a b then some (PyData.eqv a b) else none)=some x->x=PyData.eqv a b/\(noDict a=true/\noDict b=true/\min a.depth b.depth<=64):=λq=>by have Q:=gQ q;refine Er Q.2 ?_;have q:=Q.1;unfold mn at q;exact⟨rfl,by simpa [az,and_assoc] using q⟩
 cases d <;> first
  | exact k h
  | (cases e <;> first
   | exact k h
   | (exact LL h;refine⟨?_,⟨rfl,rfl,by show _<=64;exact af (ny _ _) (by refine Er PyData.depth ?_;decide)⟩⟩;rw[PyData.eqv];done)
   | (refine Er (bO h).symm ?_;refine⟨?_,⟨rfl,rfl,by show _<=64;exact af (ny _ _) (by rw[PyData.depth];decide)⟩⟩;rw[PyData.eqv,EX];done))
theorem Ae{x:D} :∀{V:Sb}{b:Bool},lj x V=some b->b=V.any (λy=>PyData.eqv y x)/\noDicts V=true/\min (PyData.depthAll V) x.depth<=64:=by intro V b h;induction V generalizing b with
 | nil=>refine Er (bO h).symm ?_;exact⟨rfl,rfl,by simp[PyData.depthAll]⟩
 | cons d V ih=>
  have h:(match qU d x with
   | none=>none
   | some b=>match lj x V with
    | none=>none
    | some c=>some<|b||c)=some b:=h
  cases hc:qU d x with
  | none=>rw[hc]at h;exact bz h
  | some c=>rw[hc]at h;cases hc':lj x V with
   | none=>rw[hc']at h;exact bz h
   | some c'=>rw[hc']at h;refine Er (bO h).symm ?_;refine⟨by exact Er List.any_cons<|Er ((mq hc).1)<|Er ((ih hc').1) rfl,by show(noDict d&&noDicts V)=true;rw[(mq hc).2.1,(ih hc').2.1];rfl,?_⟩;simp only[PyData.depthAll];exact(Nat.le_total (PyData.depth d)<|PyData.depthAll V).elim (λq=>by refine Er (Nat.max_eq_right q) ?_;exact(ih hc').2.2) (λq=>by refine Er (Nat.max_eq_left q) ?_;exact(mq hc).2.2.2)
theorem Ma{d e:D}(he:qU d e=some b')(ra:eX s.heap Z a d)(rb:eX s.heap Z b e)(hu:A.units+64<cLine) :wpAny (model prog w) A (compareOp .Eq a b) (Op Z s<|.fz<|.bool b') E s:=by have q:=mq he;refine Er q.1 ?_;obtain⟨as,qa⟩:=ra.reads q.2.1;obtain⟨bs,qb⟩:=rb.reads q.2.2.1;exact SeqAt.compareEq_reads qa qb (ra.canLay q.2.1) (rb.canLay q.2.2.1) (by omega) .bool
theorem L8{d e:D}(he:qU d e=some b')(ra:eX s.heap Z a d)(rb:eX s.heap Z b e)(hu:A.units+64<cLine) :wpAny (model prog w) A (compareOp .NotEq a b) (Op Z s<|.fz<|.bool<|!b') E s:=by have q:=mq he;refine Er q.1 ?_;obtain⟨as,qa⟩:=ra.reads q.2.1;obtain⟨bs,qb⟩:=rb.reads q.2.2.1;exact SeqAt.compareNe_reads qa qb (ra.canLay q.2.1) (rb.canLay q.2.2.1) (by omega) .bool
theorem BC(h:noDicts S=true) :noDict (.tuple S)=true:=h
theorem DK(h:PyData.canLay0 (.tuple S)=true) :PyData.canLayAll0 S=true:=by rwa [PyData.canLay0]at h
theorem x3{u m:Nat}(hu:u+66<cLine)(h:m<=64) :u+1+m<cLine:=by omega
theorem F3(h:noDicts S=true) :noDict (.list S)=true:=h
theorem Id(h:PyData.canLay0 (.list S)=true) :PyData.canLayAll0 S=true:=by rwa [PyData.canLay0]at h
theorem Cr{d:D}(he:(if noDict d=true then lj d S else none)=some b') :noDict d=true/\b'=S.any (λy=>PyData.eqv y d)/\noDicts S=true/\min (PyData.depthAll S) d.depth<=64:=by
 by_cases q:noDict d=true
 .rw[if_pos q]at he;exact⟨q,Ae he⟩
 .rw[if_neg q]at he;exact bz he
theorem L9{d e:D}(he:Lm d e=some b')(ra:eX s.heap Z a d)(rb:eX s.heap Z b e)(hu:A.units+66<cLine) :wpAny (model prog w) A (compareOp .In a b) (Op Z s<|.fz<|.bool b') E s:=by cases e with
 | tuple S=>obtain⟨hd,rfl,h1,h2⟩:=Cr he;obtain⟨as,qa⟩:=ra.reads hd;obtain⟨bs,qb⟩:=rb.reads h1;exact SeqAt.in_tuple_reads qb qa (DK<|rb.canLay<|BC h1) (ra.canLay hd) (x3 hu h2) .bool
 | list S=>obtain⟨hd,rfl,h1,h2⟩:=Cr he;obtain⟨as,qa⟩:=ra.reads hd;obtain⟨bs,qb⟩:=rb.reads h1;exact SeqAt.in_list_reads qb qa (Id<|rb.canLay<|F3 h1) (ra.canLay hd) (x3 hu h2) .bool
 | dict SN=>cases d with
  | str x=>obtain rfl:=bO he;obtain⟨u,rfl,_,_⟩:=ra.str;obtain⟨l,kv,rfl,hd,hl,R⟩:=rb.dict;exact wpAny_in_of (knd:=strKind prog w) (strKind_is _ _ _ u) hd.1 hd.2.mapOf<|Er R.isSome<|.valT<|.bool _
  | _=>exact bz he
 | _=>exact bz he
set_option tactic.hygienic true in
theorem Ia{d e:D}(he:NR d e=some b')(ra:eX s.heap Z a d)(rb:eX s.heap Z b e)(hu:A.units<cLine) :wpAny (model prog w) A (compareOp .NotEq a b) (Op Z s<|.fz<|.bool b') E s:=by
 refine cX λSD g=>?_;cases d <;> first | exact bz he | (cases e <;> first | exact bz he | skip)
 rename_i S ys;cases ys with
 | cons _ _=>refine g ?_;exact bz he
 | nil=>refine g ?_;refine Er (bO he).symm ?_;obtain⟨l,O,n,rfl,hl,hn,R⟩:=ra.list;obtain⟨l',vs',n',rfl,hl',hn',R'⟩:=rb.list;cases R';cases S with
  | nil=>cases R;exact SeqAt.RcNeAt.lists (e:=λj0_=>true) ⟨_,hl,rfl,_,rfl⟩ ⟨_,hl',rfl,_,rfl⟩ rfl hu (λj h1=>absurd h1<|nu _) _ _ _ _ .bool
  | cons x S=>cases R;exact SeqAt.RcNeAt.lists_lengths ⟨_,hl,rfl,_,rfl⟩ ⟨_,hl',rfl,_,rfl⟩ rfl hu _ _ _ _ .bool
noncomputable def iO:Cm->CmpOp
 | .eq=>.Eq | .ne=>.NotEq | .lt=>.Lt | .le=>.LtE | .gt=>.Gt | .ge=>.GtE | .isin=>.In | .nel=>.NotEq
theorem oZ{d e:D}(he:bZ o d e=some b')(ra:eX s.heap Z a d)(rb:eX s.heap Z b e)(hu:A.units+66<cLine) :
  wpAny (model prog w) A (compareOp (iO o) a b) (Op Z s<|.fz<|.bool b') E s:=by
 cases o with
 | eq=>exact Ma he ra rb (by omega)
 | ne=>obtain⟨c,hc,rfl⟩:=aT.mp he;exact L8 hc ra rb (by omega)
 | lt=>
  cases d <;> first | exact bz he | (cases e <;> first | exact bz he | skip)
  obtain rfl:=bO he;obtain⟨t,rfl⟩:=ra.int;obtain⟨u,rfl⟩:=rb.int;exact lt_int .bool
 | le=>
  cases d <;> first | exact bz he | (cases e <;> first | exact bz he | skip)
  obtain rfl:=bO he;obtain⟨t,rfl⟩:=ra.int;obtain⟨u,rfl⟩:=rb.int;exact PyProof.Rows.le_int .bool
 | gt=>
  cases e <;> first | exact bz he | (cases d <;> first | exact bz he | skip)
  obtain rfl:=bO he;obtain⟨t,rfl⟩:=ra.int;obtain⟨u,rfl⟩:=rb.int;exact gt_int .bool
 | ge=>
  cases e <;> first | exact bz he | (cases d <;> first | exact bz he | skip)
  obtain rfl:=bO he;obtain⟨t,rfl⟩:=ra.int;obtain⟨u,rfl⟩:=rb.int;exact PyProof.Rows.ge_int .bool
 | isin=>exact L9 he ra rb hu
 | nel=>exact Ia he ra rb<|aL (aq _ _) hu
end
section
variable {A:Around}{E:Sr}{s:Shared}{Z:Ss}{a b:Value}
theorem oY{d:D}(ra:eX s.heap Z a d){Q:Bool->Shared->Prop}(h:∀tk,Q (tD d) {s with toks:=tk}) :wpAny (model prog w) A (truthy a) Q E s:=by cases d with
 | none=>exact Er ra.none (λj0_ j1_ j2_=>h s.toks)
 | bool b=>exact Er ra.bool<|rr<|h s.toks
 | int i=>obtain⟨t,rfl⟩:=ra.int;exact PyProof.Rows.truthy_int<|h s.toks
 | str x=>
  refine cX λSD g=>?_;obtain⟨t,rfl,_,hz⟩:=ra.str;refine g ?_;refine P.truthy_str (λmvo13=>(Lf [x.length] [Gl .x<|.c 16777216,Gi (.c 9223372036854775808)<|.n .x] rfl hz mvo13)) ?_;have e:((x.length:Int) != 0)=tD (.str x):=by
   show _=(x.cps.size != 0)
   show((x.cps.size:Int) != 0)=_
   cases x.cps.size with
   | zero=>rfl
   | succ n=>rfl
  exact Er e<|h _
 | list V=>
  obtain⟨l,O,n,rfl,hl,hn,R⟩:=ra.list;refine wpAny_truthy_list hl.isList (by refine Er ax ?_;simp only[Sz]at hn;omega) ?_;have e:(!vs.toArray.isEmpty)=tD (.list V):=by cases R <;> rfl
  exact Er e<|h _
 | tuple V=>
  obtain⟨l,O,n,rfl,hl,hn,R,_⟩:=ra.tuple;refine truthy_tuple ⟨_,hl,rfl,_,rfl⟩ (by refine Er ax ?_;simp only[Sz]at hn;omega) ?_;have e:(!vs.toArray.isEmpty)=tD (.tuple V):=by cases R <;> rfl
  exact Er e<|h _
 | dict SN=>
  obtain⟨l,kv,rfl,hd,hn,R⟩:=ra.dict;refine wpAny_truthy_dict (knd:=strKind prog w) hd.1 hd.2 (by simp only[Sz]at hn;omega) ?_;have e:(!kv.isEmpty)=tD (.dict SN):=by cases R <;> rfl
  exact Er e<|h _
theorem KJ{d:D}(ra:eX s.heap Z a d) :wpAny (model prog w) A (unaryOp .Not a) (Op Z s<|.fz<|.bool<|!tD d) E s:=
 not_of (oY ra λtk=>.valT<|.bool _)
theorem KK{d e:D}(he:FX d=some e)(ra:eX s.heap Z a d) :wpAny (model prog w) A (unaryOp .USub a) (Op Z s<|.fz e) E s:=by
 unfold FX at he;refine cX λSD g=>?_;split at he <;> cases he
 obtain⟨t,rfl⟩:=ra.int;exact g<|PyProof.Rows.neg_int .int
set_option tactic.hygienic true in
theorem seqIndex_of{α:Type}{S:List α}{i:Int}{x:α}(h:da S i=some x) :∃k,seqIndex? i S.length=some k/\S[k]? = some x:=by
 unfold da at h;unfold seqIndex?;split at h
 .rename_i q;refine⟨i.toNat,?_,h⟩;simp only[(if_neg (by exact(λmvo9=>(qj [] [i] [Gi (.c 0) .x,Gi (.p 1 .x)<|.c 0] rfl q mvo9))) :(if i<0 then i+(S.length:Int) else i)=i)];exact Er (if_pos (by simp;exact⟨q,(sB [S.length,i.toNat] [i] 1 (.i (.p 1 .x)<|.n .x) [Gl (.p 1 .y) .x,Gk (.n .y) .x] rfl ((av.mp h).1)<|dI (a:=i) q)⟩)) rfl
 .exact bz h
set_option tactic.hygienic true in
theorem m3{α:Type}{S:List α}{i:Int}{x:α}(h:da S i=some x)(hz:S.length<=Sz) : -(2 ^ 63:Int)<=i/\i<2 ^ 63:=by
 unfold da at h;simp only[Sz]at hz;split at h
 .rename_i q;exact⟨Int.le_trans (by decide) q,Int.lt_trans ((Int.toNat_lt q).mp<|aV (av.mp h).1 hz) (by decide)⟩
 .exact bz h
theorem vN{d e r:D}(he:jE d e=some r)(ra:eX s.heap Z a d)(rb:eX s.heap Z b e) :
  ∃T id,s.TypeIs a T/\typeLookup (.type T) "__getitem__" = pure (some (.builtin id))/\wpAny (model prog w) A (getItem a b) (Op Z s (.fz r)) E s:=by
 cases d with
 | list V=>cases e with
  | int i=>
   have he:da V i=some r:=he;obtain⟨l,O,n,rfl,hl,hn,R⟩:=ra.list;obtain⟨t,rfl⟩:=rb.int;refine⟨_,_,⟨_,hl,rfl⟩,slot_list_getitem.lookup,?_⟩;have hb:=m3 he (by refine Er R.length.symm ?_;exact hn);unfold da at he;split at he
   .exact aR (R.get he) λv z=>(wpAny_getItem_list hl.isList (by assumption) hb.2 (by simpa using z.1)<|.val z.2)
   .exact bz he
  | _=>exact bz he
 | tuple V=>cases e with
  | int i=>obtain⟨l,O,n,rfl,hl,hn,R,zl⟩:=ra.tuple;obtain⟨t,rfl⟩:=rb.int;refine⟨_,_,⟨_,hl,rfl⟩,slot_tuple_getitem.lookup,?_⟩;have hb:=m3 he (by refine Er R.length.symm ?_;exact hn);exact aR (seqIndex_of he) λk j=>(aR (R.get j.2) λv Q=>(P.getItem_tuple hl hb.1 hb.2 (by refine Er ax<|Er R.length ?_;exact j.1) (by simpa using Q.1)<|.val Q.2))
  | _=>exact bz he
 | str x=>cases e with
  | int i=>
   refine aR (aT.mp he) λc J=>?_;obtain rfl:=J.2;obtain⟨t,rfl,ho,hz⟩:=ra.str;obtain⟨u,rfl⟩:=rb.int;have hb:=m3 J.1 (by refine Er Array.length_toList ?_;exact hz);refine aR (seqIndex_of J.1) λk Sv=>?_;have hk:=Sv.1;have hx:=Sv.2;have hat:Txt.charAt x i=some c:=by
    unfold Txt.charAt;refine Er (show seqIndex? i x.length=some k from by rw[Array.length_toList]at hk;exact hk) ?_;show x.cps[k]? = some c
    exact Er (Array.getElem?_toList).symm hx
   refine⟨_,_,rfl,slot_str_getitem.lookup,SB.getItem (by show(!(decide (i < -(2 ^ 63:Int))||decide (i≥2 ^ 63)))=true;simp;exact⟨((hb).1),((hb).2)⟩) (by refine Er hat ?_;rfl) ?_⟩;have e:Txt.item x i=⟨#[c]⟩:=by unfold Txt.item;refine Er hat ?_;rfl
   refine Er e ?_;refine .valT<|.str _ _ ?_ (by show 1<=16777216;exact(Ln [] (.w (.c 1)<|.c 16777216) [] rfl));unfold PyData.strOk at ho |-;rw[<- Array.all_toList,aB]at ho;simpa using ho c (aN hx)
  | _=>exact bz he
 | dict SN=>cases e with
  | str k=>
   have he:bU SN k=some r:=he;obtain⟨l,kv,rfl,hd,hn,R⟩:=ra.dict;obtain⟨t,rfl,_,_⟩:=rb.str;refine cX λSD g1=>?_;rcases R.get (k:=k) with⟨h1,h2⟩ | ⟨v,d',h1,h2,rv⟩
   .refine g1 ?_;have he:=h1▸he;exact bz he
   .refine g1 ?_;rw[h1]at he;exact Er (bO he).symm<|⟨_,_,hd.2.typeIs,slot_dict_getitem.lookup,wpAny_getItem_of (knd:=strKind prog w) (strKind_is _ _ k t) hd.2.mapOf h2<|.valT rv⟩
  | _=>exact bz he
 | _=>exact bz he
theorem Op.after{v:Value}(k:∀b o,s.heap.get? b=some o->h₁.get? b=some o)(p:Op Z {s with heap:=h₁} r v s') :Op Z s r v s':=by
 obtain⟨h',tk,rfl,k',q⟩:=p;refine⟨h',tk,rfl,λb o e=>k' b o<|k b o e,?_⟩;have old:∀a,h₁.get? a=none->s.heap.get? a=none:=λa e=>by cases q:s.heap.get? a with
  | none=>rfl
  | some o=>have e:=(k a o q)▸e;exact nomatch e
 cases q with
 | old r=>exact .old r
 | new e e' r=>exact .new (old _ e) e' r
 | own e r=>exact .own (old _ e) r
theorem Mp(a n:Nat)(ha:a<=n) :Builtin.Slice.sliceAdjust none (some (a:Int)) 1 (n:Int)=(0,(a:Int)):=by
 unfold Builtin.Slice.sliceAdjust;have h1:¬((1:Int)<0):=by omega
 have h2:¬((a:Int)<0):=by omega
 simp only[h1,h2,if_false];congr 1;omega
theorem yR(a:Nat) :Builtin.Slice.slicePlaces 0 (a:Int) 1=a:=by
 unfold Builtin.Slice.slicePlaces;have h1:(1:Int) > 0:=by omega
 simp only[h1,if_true,Int.ediv_one];split <;> omega
theorem xe{sl:Addr}{a n:Nat}{u:Tok}{Q:Int×Int×Nat->Shared->Prop}(G:s.heap.IsSliceOf sl .none (.int a u) .none)(ha:a<=n)(h:Q (0,1,a) s) :
  wpAny (model prog w) A (Builtin.Slice.sliceApplied (.ref sl)<|pure (n:Int)) Q E s:=by
 obtain⟨os,hos,hcs,hds⟩:=id G;unfold Builtin.Slice.sliceApplied Builtin.Slice.sliceFields;refine ae<|ae<|bY hos hds (x:=.none) rfl<|ae<|bY hos hds (x:=.int a u) rfl<|ae<|bY hos hds (x:=.none) rfl<|au ?_;refine ae<|slicePart_none ?_;show wpAny _ _ (if ((1:Int)==0)=true then _ else _) _ _ s
 rw[if_neg (by decide)];refine ae<|slicePart_none<|ae<|slicePart_int<|ae<|au ?_;show wpAny _ _ (match Builtin.Slice.sliceAdjust none (some (a:Int)) 1 (n:Int) with | (lo,hi)=>pure (lo,(1:Int),Builtin.Slice.slicePlaces lo hi 1)) _ _ s
 rw[Mp a n ha];show wpAny _ _ (pure ((0:Int),(1:Int),Builtin.Slice.slicePlaces 0 (a:Int) 1)) _ _ s
 rw[yR a];exact au h
theorem FK(S:Array Value)(a:Nat) :((List.range a).filterMap λ(k:Nat)=>S[((0:Int)+(k:Int)*1).toNat]?).toArray=(S.toList.take a).toArray:=by
 have e:(λ(k:Nat)=>S[((0:Int)+(k:Int)*1).toNat]?)=λk=>S[0+k]?:=by
  funext k;have:((0:Int)+(k:Int)*1).toNat=0+k:=by omega
  rw[this]
 rw[e];have:=pick_run S 0 a;rw[List.filterMap_map]at this;have e2:((λx=>S[x]?) ∘ λx=>0+x)=λk=>S[0+k]?:=rfl;rw[e2]at this;rw[this,km]
theorem wm{t sl:Addr}{SJ:Array Value}{a:Nat}{u:Tok}{Q:Sr}(ht:IsTup s.heap t SJ)(G:s.heap.IsSliceOf sl .none (.int a u) .none)(ha:a<SJ.size)
  (h:Q (.ref s.heap.objs.size) {s with heap:=s.heap.push {cls:=.type "tuple",data:=.seq (SJ.toList.take a).toArray}}) (hsz:SJ.size<=sizeLine) :wpAny (model prog w) A (getItem (.ref t) (.ref sl)) Q E s:=by
 have hdrop:sizeOk (.seq (SJ.toList.take a).toArray):=by
  show(SJ.toList.take a).toArray.size<=sizeLine
  rw[ax,eY];omega
 obtain ⟨os,hos,hcs,hds⟩:=id G;have hTs:s.TypeIs (.ref sl) "slice":=⟨os,hos,hcs⟩
 unfold getItem
 try with_reducible refine d6 ?_
 first | refine ae (au ?_) | skip
 refine ae (wpAny_sequenceKey ht.typeIs (by decide) ?_);refine ae (dg (name:=Str.ofString "__getitem__") ht.typeIs slot_tuple_getitem
  (dY slot_tuple_getitem ht.typeIs entry_tuple_getitem ?_<|args_tuple_getitem _ _))
 show wpAny _ _ (Builtin.Tuple.tupleItemsOf (.ref t) >>= _) _ _ s
 refine ae<|tupleItemsOf_ ht ?_;refine ae<|wpAny_typeOf hTs ?_;rw[if_pos (by decide)];refine ae<|xe G (oa ha) ?_;have hno:¬(((0:Int)==0&&(1:Int)==1&&a==SJ.size)=true):=by
  have:(a==SJ.size)=false:=by rw[iQ];omega
  rw[this];simp
 show wpAny _ _ (if ((0:Int)==0&&(1:Int)==1&&a==SJ.size)=true then _ else _) _ _ s
 rw[if_neg hno,FK SJ a]
 first
  | exact ae (m:=Builtin.Tuple.tupleExact _)<|cc (au ⟨_,rfl,au h⟩) hdrop
  | exact ae (m:=Builtin.Tuple.tupleExact _)<|cc (ae<|au<|au ⟨_,rfl,au h⟩) hdrop
  | exact ae<|ae (m:=Builtin.Tuple.tupleExact _)<|cc (au<|au ⟨_,rfl,au h⟩) hdrop
  | exact ae<|ae (m:=Builtin.Tuple.tupleExact _)<|cc (au ⟨_,rfl,au h⟩) hdrop
theorem Bo{d l h:D}{r:Rv}{vl vu:Value}(he:vE d l h=some r)(ra:eX s.heap Z a d)(rl:eX s.heap Z vl l)(rh:eX s.heap Z vu h) :
  ∃T id,({s with heap:=s.heap.push {cls:=.type "slice",data:=.fields #[vl,vu,.none]}} :Shared).TypeIs a T/\typeLookup (.type T) "__getitem__" = pure (some (.builtin id))/\
   wpAny (model prog w) A (getItem a (.ref s.heap.objs.size)) (Op Z s r) E {s with heap:=s.heap.push {cls:=.type "slice",data:=.fields #[vl,vu,.none]}}:=by
 have L:∃S,d = .tuple S/\((∃k:Nat,l = .int k/\h = .none/\1<=k/\k<=S.length/\ .fz (.tuple<|S.drop k)=r)\/ ∃k:Nat,l = .none/\h = .int k/\k<S.length/\ .fz (.tuple<|S.take k)=r):=by cases d with
  | tuple V=>refine⟨V,rfl,?_⟩;cases l with
   | int i=>cases h with
    | none=>
     have he:(if i=1 then Qc V else if 1<=i/\i<=V.length then some (.fz<|.tuple<|V.drop i.toNat) else none)=some r:=he;by_cases q:i=1
     .rw[if_pos q]at he;cases V with
      | nil=>exact bz he
      | cons d V=>exact .inl ⟨1,q▸rfl,rfl,aQ _,dh<|ba _,bO he⟩
     .rw[if_neg q]at he;obtain⟨q,rfl⟩:=gQ he;have e:((i.toNat:Nat) :Int)=i:=dI<|Int.le_trans (by decide) q.1;exact .inl ⟨i.toNat,by rw[e],rfl,kr.mp<|e▸q.1,kr.mp<|e▸q.2,rfl⟩
    | _=>exact bz he
   | none=>cases h with
    | int j=>obtain⟨q,rfl⟩:=gQ he;have e:((j.toNat:Nat) :Int)=j:=dI q.1;exact .inr ⟨j.toNat,rfl,by rw[e],kq.mp<|e▸q.2,rfl⟩
    | _=>exact bz he
   | _=>exact bz he
  | _=>exact bz he
 obtain⟨S,rfl,L⟩:=L;obtain⟨l,O,n,rfl,hl,hn,R,zl⟩:=ra.tuple;rcases L with⟨k,rfl,rfl,h1,h2,rfl⟩ | ⟨k,rfl,rfl,h2,rfl⟩
 .obtain⟨t,rfl⟩:=rl.int;refine Er rh.none ?_;refine ⟨_,_,⟨_,pK _ _ _ hl,rfl⟩,slot_tuple_getitem.lookup,PyProof.Rows.getItem_tuple_from (s:= {s with heap:=s.heap.push _}) (a:=k) ⟨_,IsT.push hl _,rfl,_,rfl⟩ (Heap.IsSliceOf.new ..) h1 (by refine Er ax ?_; rw [R.length]; exact h2) ?_ (by refine Er ax (Er dR.symm ?_); exact hn)⟩;exact .after (h₁:=s.heap.push {cls:=.type "slice",data:=.fields #[.int k t,.none,.none]}) (pK _) (.newT ((R.drop k).mono (λa o j0_ e=>pK _ a o e) λj0_ z=>z) (by rw [lP]; exact af (Nat.sub_le _ _) hn))
 .obtain⟨t,rfl⟩:=rh.int;refine Er rl.none ?_;refine ⟨_,_,⟨_,pK _ _ _ hl,rfl⟩,slot_tuple_getitem.lookup,wm (s:= {s with heap:=s.heap.push _}) (a:=k) ⟨_,IsT.push hl _,rfl,_,rfl⟩ (Heap.IsSliceOf.new ..) (by refine Er ax ?_; rw [R.length]; exact h2) ?_ (by refine Er ax (Er dR.symm ?_); exact hn)⟩;exact .after (h₁:=s.heap.push {cls:=.type "slice",data:=.fields #[.none,.int k t,.none]}) (pK _) (.newT ((R.take k).mono (λa o j0_ e=>pK _ a o e) λj0_ z=>z) (by rw [eY]; exact af (Nat.min_le_right _ _) hn))
end
noncomputable def fL:Ty->String
 | .tup=>"tuple" | .int=>"int" | .bool=>"bool" | .str=>"str"
section
variable {A:Around}{E:Sr}{s:Shared}{Z:Ss}{a b:Value}
theorem KL{d:D}(he:Gn d = some n)(ra:eX s.heap Z a d) :wpAny (model prog w) A (call (.builtin "len") [a]) (Op Z s (.fz (.int n))) E s:=by
 cases d <;> first | exact bz he | refine Er (bO he).symm ?_
 .obtain⟨l,O,k,rfl,hl,hn,R⟩:=ra.list;simp only[Sz]at hn;refine Calls.call_len_list hl.isList (by refine Er ax ?_;omega) ?_;exact Er ax<|Er R.length .int
 .obtain⟨l,O,k,rfl,hl,hn,R,_⟩:=ra.tuple;simp only[Sz]at hn;refine P.len_tuple hl (by refine Er ax ?_;exact(λmvo15=>(Lf [O.length] [Gl .x<|.c 16777216,Gi (.c 9223372036854775808)<|.n .x] rfl hn mvo15))) ?_;exact Er ax<|Er R.length .int
theorem KM{d:D}(t:Ty)(ra:eX s.heap Z a d) :wpAny (model prog w) A (call (.builtin "isinstance") [a,.type (fL t)]) (Op Z s (.fz (.bool (o8 t d)))) E s:=by cases d with
 | none=>obtain rfl:=ra.none;cases t <;> first | exact IsiPair.NoneType_tuple (.valT<|.bool _) | exact IsiPair.NoneType_int (.valT<|.bool _) | exact IsiPair.NoneType_bool (.valT<|.bool _) | exact IsiPair.NoneType_str (.valT<|.bool _) | exact IsiPair.NoneType_list<|.valT<|.bool _
 | bool b=>obtain rfl:=ra.bool;cases t <;> first | exact IsiPair.bool_tuple (.valT<|.bool _) | exact IsiPair.bool_int .bool | exact IsiPair.bool_bool .bool | exact IsiPair.bool_str (.valT<|.bool _) | exact IsiPair.bool_list<|.valT<|.bool _
 | int i=>obtain⟨u,rfl⟩:=ra.int;cases t <;> first | exact IsiPair.int_tuple (.valT<|.bool _) | exact IsiPair.int_int .bool | exact IsiPair.int_bool (.valT<|.bool _) | exact IsiPair.int_str (.valT<|.bool _) | exact IsiPair.int_list<|.valT<|.bool _
 | str x=>obtain⟨u,rfl,_⟩:=ra.str;cases t <;> first | exact IsiPair.str_tuple (.valT<|.bool _) | exact IsiPair.str_int (.valT<|.bool _) | exact IsiPair.str_bool (.valT<|.bool _) | exact IsiPair.str_str .bool | exact IsiPair.str_list<|.valT<|.bool _
 | list V=>obtain⟨l,O,k,rfl,hl,hn,R⟩:=ra.list;cases t <;> first | exact IsiPair.list_tuple hl rfl (.valT<|.bool _) | exact IsiPair.list_int hl rfl (.valT<|.bool _) | exact IsiPair.list_bool hl rfl (.valT<|.bool _) | exact IsiPair.list_str hl rfl (.valT<|.bool _) | exact IsiPair.list_list hl rfl .bool
 | tuple V=>obtain⟨l,O,k,rfl,hl,hn,R,_⟩:=ra.tuple;cases t <;> first | exact IsiPair.tuple_tuple hl rfl .bool | exact IsiPair.tuple_int hl rfl (.valT<|.bool _) | exact IsiPair.tuple_bool hl rfl (.valT<|.bool _) | exact IsiPair.tuple_str hl rfl (.valT<|.bool _) | exact IsiPair.tuple_list hl rfl<|.valT<|.bool _
 | dict SN=>obtain⟨l,kv,rfl,hd,hn,R⟩:=ra.dict;obtain⟨o,_,_,ho,hc,_⟩:=hd.2;cases t <;> first | exact IsiPair.dict_tuple ho hc.1 (.valT<|.bool _) | exact IsiPair.dict_int ho hc.1 (.valT<|.bool _) | exact IsiPair.dict_bool ho hc.1 (.valT<|.bool _) | exact IsiPair.dict_str ho hc.1 (.valT<|.bool _) | exact IsiPair.dict_list ho hc.1<|.valT<|.bool _
theorem KP(ra:eX s.heap Z a (.int i)) :wpAny (model prog w) A (call (.builtin "abs") [a]) (Op Z s (.fz (.int i.natAbs))) E s:=by
 obtain⟨u,rfl⟩:=ra.int;refine call_abs_int λu tk=>?_;have e:(if i<0 then -i else i)=((i.natAbs:Nat) :Int):=by split <;> (first | exact(by omega) | exact(by omega))
 exact Er e .int
theorem FN(ra:eX s.heap Z a (.bool b')) :wpAny (model prog w) A (call (.type "int") [a]) (Op Z s (.fz (.int (if b' then 1 else 0)))) E s:=
 Er ra.bool (call_int_bool .int)
theorem yV(ra:eX s.heap Z a (.list V)) :wpAny (model prog w) A (call (.type "tuple") [a]) (Op Z s (.fz (.tuple V))) E s:=by obtain⟨l,O,k,rfl,hl,hn,R⟩:=ra.list;refine call_tuple_list hl.isList (λh' hk=>?_) (by refine Er ax (Er dR.symm ?_);exact hn);exact .after (h₁:=h') hk (.newT (R.mono (λa o j0_ e=>hk a o e) λj0_ z=>z) hn)
theorem yU(ra:eX s.heap Z a (.tuple V)) :wpAny (model prog w) A (call (.type "tuple") [a]) (Op Z s (.fz (.tuple V))) E s:=by obtain⟨l,O,k,rfl,hl,hn,R,zl⟩:=ra.tuple;exact call_tuple_same ⟨_,hl,rfl,_,rfl⟩ (.val (.tuple zl hl hn R))
theorem KI(he:pI .str [.int (.ofNat n)] = some r)(ra:eX s.heap Z a (.int (.ofNat n))) :wpAny (model prog w) A (call (.type "str") [a]) (Op Z s r) E s:=by
 obtain⟨t,rfl⟩:=ra.int;obtain⟨h,rfl⟩:=gQ (r:=r) (show(if n<10 ^ 18/\(jR n).length<=20 then some (Rv.fz<|.str ⟨(jR n).toArray⟩) else none)=some r from he);refine PySem.P.str_of_int ?_ ?_
 .show n.log2<_
  by_cases q:n=0
  .rw[q];decide
  .exact aV ((Nat.log2_lt q).mpr<|aV h.1 (show 10 ^ 18<=2 ^ 60 by decide)) (by decide)
 .have e:(Str.ofString<|toString<|Int.ofNat n)=⟨(jR n).toArray⟩:=by
   have:=PySem.W.KIN.signs_num n;generalize Str.ofString (toString<|Int.ofNat n)=x at this;obtain⟨⟨l⟩⟩:=x;exact congrArg (λl=>(⟨⟨l⟩⟩ :Str)) this
  refine Er e<|.valT<|.str _ _ ?_ (by show(jR n).length<=_;exact af h.2 (by decide));unfold PyData.strOk;rw[<- Array.all_toList,aB];intro c hc;obtain⟨ch,_,rfl⟩:=aH.mp hc;exact ak (by(have:=ch.valid;rcases this with h | h;· exact ir h (by decide));· exact h.2)
theorem Bp(ra:eX s.heap Z a (.tuple V)) :wpAny (model prog w) A (call (.type "list") [a]) (Op Z s (.own (.list V))) E s:=by obtain⟨l,O,k,rfl,hl,hn,R,_⟩:=ra.tuple;exact call_list_seq l (.inr rfl) hl rfl rfl (λh' c' hk hD=>⟨h',s.toks,rfl,hk,.own (ya _) (.list hD hn (R.mono (λa o j0_ e=>hk a o e) λj0_ z=>z))⟩) (by refine Er ax (Er dR.symm ?_);exact hn)
theorem tU:∀{V:Sb}{k:Int}{r:D},vz k V=some r-> ∃f:Nat->Int,(∀i d,V[i]? = some d->d=PyData.int (f i))/\r=PyData.int (k+preSum f V.length)
 | [],k,r,h=>by exact Er (bO h).symm<|⟨λj0_=>0,λi d e=>by simp at e,by simp[preSum]⟩
 | .int b::V,k,r,h=>by
  obtain⟨f,h1,rfl⟩:=tU (V:=V) h;refine⟨λi=>match i with | 0=>b | i+1=>f i,λi d e=>?_,?_⟩
  .cases i with
   | zero=>simp at e;exact e.symm
   | succ i=>exact h1 i d e
  .have:∀n,preSum (λi=>match i with | 0=>b | i+1=>f i) (n+1)=b+preSum f n:=by
    intro n;induction n with
    | zero=>simp[preSum]
    | succ n ih=>rw[preSum,ih,preSum];simp only;exact(jd (Li [b,preSum f n,f n] (.i (.a (.a .x .y) .z)<|.a .x<|.a .y .z) [] rfl)<|Li [b,preSum f n,f n] (.i (.a .x<|.a .y .z)<|.a (.a .x .y) .z) [] rfl)
   refine Er aD ?_;rw[this];congr 1;exact(jd (by omega) (by omega))
 | .none::_,_,_,h=>by exact bz h
 | .bool _::_,_,_,h=>by exact bz h
 | .str _::_,_,_,h=>by exact bz h
 | .list _::_,_,_,h=>by exact bz h
 | .tuple _::_,_,_,h=>by exact bz h
 | .dict _::_,_,_,h=>by exact bz h
theorem KH(hh:A.handled = none)(he:vz 0 V = some r)(ra:eX s.heap Z a (.list V)) :wpAny (model prog w) A (call (.builtin "sum") [a]) (Op Z s (.fz r)) E s:=by
 obtain⟨l,O,k,rfl,hl,hn,R⟩:=ra.list;obtain⟨f,hf,rfl⟩:=tU he;refine call_sum_walkG<|rt hl.isList ?_;refine⟨_,_,_,_,_,_,f,rfl,Walks.list (A:=A.in1) hh s.heap.objs.size l (bW<|br hl) O.toArray,⟨⟨_,bl _ rfl,rfl,rfl⟩,(IsL.push hl _).isList⟩,λb hb=>?_,λi v hv=>?_,λh' tk t' hk=>?_⟩
 .rw[gg];simp at hb;rcases hb with rfl | rfl
  .exact dZ _
  .exact ki (br hl)
 .have hv':O[i]? = some v:=by simpa using hv
  refine aR (R.getV hv') λd Q=>?_
  have:=hf i d Q.1;subst this;obtain⟨t,e⟩:=(dW.dat Q.2).int;exact⟨t,e⟩
 .have e:(0:Int)+preSum f V.length=preSum f O.toArray.size:=by exact Er ax (Er R.length<|jd (Li [preSum f V.length] (.i (.a (.c 0) .x) .x) [] rfl)<|Li [preSum f V.length] (.i .x<|.a (.c 0) .x) [] rfl)
  refine Er e ?_;refine⟨h',tk,rfl,λb o q=>hk b o (λm=>?_)<|pK _ b o q,.old<|.int _ _⟩;simp at m;exact absurd (br q) (by refine Er m ?_;exact fN _)
theorem ri:∀{S:Sb}{bs:Sp},jq S=some bs->S=bs.map PyData.bool
 | [],_,h=>by obtain rfl:=bO h;rfl
 | .bool b::S,bs,h=>by obtain⟨r,hr,rfl⟩:=aT.mp h;refine Er (ri hr) ?_;rfl
 | .int _::_,_,h=>by exact bz h
 | .none::_,_,h=>by exact bz h
 | .str _::_,_,h=>by exact bz h
 | .list _::_,_,h=>by exact bz h
 | .tuple _::_,_,h=>by exact bz h
 | .dict _::_,_,h=>by exact bz h
theorem pH(bs:Sp) :noDicts (bs.map PyData.bool)=true/\(bs.map PyData.bool).all PySem.Spec.Shape.bool.has=true:=by induction bs with
 | nil=>exact⟨rfl,rfl⟩
 | cons b bs ih=>exact⟨ih.1,by refine Er ay<|Er List.all_cons<|Er ih.2 ?_;rfl⟩
theorem uY(b:Bool) :∀bs:Sp,PySem.Spec.countIn (.bool b) (bs.map PyData.bool)=((bs.count b:Nat) :Int):=by intro bs;induction bs with
 | nil=>exact rfl
 | cons x bs ih=>
  refine Er ay<|Er List.count_cons ?_;show(if PySem.Spec.same (.bool x) (.bool b) then 1 else 0)+PySem.Spec.countIn (.bool b) (bs.map PyData.bool)=_
  refine Er ih<|Er (show PySem.Spec.same (.bool x) (.bool b)=(x==b) from rfl) ?_;cases x <;> cases b <;> simp <;> (first | exact(Le [List.count false bs] (.j (.a (.c 1)<|.n .x)<|.p 1<|.n .x) [] rfl) | exact(Le [List.count true bs] (.j (.a (.c 1)<|.n .x)<|.p 1<|.n .x) [] rfl))
theorem Br{k:Bool}(he:jq S=some bs)(ra:eX s.heap Z a (.list S))(rb:eX s.heap Z b (.bool k)) :
  wpAny (model prog w) A (call (.builtin "list.count") [a,b]) (Op Z s (.fz (.int (bs.count k:Nat)))) E s:=by
 obtain rfl:=ri he;have Q:=ra.reads (pH bs).1;obtain⟨l,O,n,rfl,hl,hn,R⟩:=ra.list;refine Er rb.bool ?_;obtain⟨as',q'⟩:=R.reads (pH bs).1;refine count_list_bools hl.isList q' (pH bs).2 ?_;rw[uY];exact .int
end
end Mv
end
section
namespace Mv
open PySem PyProof.Rows
section
variable {prog:Program}{w:World}{A:Around}{E:Sr}{s:Shared}
theorem xu{Q:α->Shared->Prop}(hh:A.handled = none)(hE:∀h' e,(∀b o,s.heap.get? b = some o->h'.get? b = some o)->(∃o,h'.get? e = some o/\o.cls = .type "StopIteration")->E (.ref e) {s with heap:=h'}) :wpAny (model prog w) A (Builtin.SmallTypes.stopIteration:Sem α) Q E s:=by
 show wpAny _ _ (newExc (.type "StopIteration") [] >>= _) _ _ _
 refine ae ?_;simp only[newExc,newTuple];refine ae<|cc ?_ (by size_fits);refine ae (m:=firstArgMember _ _)<|mK (a:=Value.none) (by first | rfl | (simp only[firstArgMember];rfl)) ?_;refine cc ?_ (by size_fits);simp only[raiseNew];refine ae<|wpAny_handled ?_;rw[hh];exact ae<|au<|wpAny_throw<|hE _ _ (λb o e=>bP _<|bP _ e) ⟨_,bl _ rfl,rfl⟩
theorem vT{it t:Addr}{x:Value}{Q:Sr}(hit:s.heap.IsTupleIter it t i)(ht:s.heap.IsTuple t SJ)(hx:SJ[i]? = some x)
  (hQ:∀h',h'.IsTupleIter it t (i+1)->Heap.SameBut it s.heap h'->Q x {s with heap:=h'}) :wpAny (model prog w) A (Builtin.SmallTypes.nextOf<|.ref it) Q E s:=by
 obtain ⟨o,q⟩:=id hit;obtain ⟨ol,hol,_,nl,hdl⟩:=ht;unfold Builtin.SmallTypes.nextOf;refine ae (dg (name:=Str.ofString "__next__") hit.typeIs ig (dY ig hit.typeIs F.entry_tuple_iterator_next ?_ (F.args_tuple_iterator_next_1 _)));show wpAny _ _ (field (.ref it) 0 >>= _) _ _ s
 refine ae<|bY q.1 q.2.2 (x:=.ref t) rfl ?_;refine cR rfl ?_;refine ae<|bY q.1 q.2.2 (x:=.int i 0) rfl ?_;refine ae<|fg hol hdl ?_;simp only[cj,hx];refine ae<|pQ q.1 q.2.2 (by simp)<|au ⟨x,rfl,au<|hQ _ ?_<|fW ..⟩;exact⟨_,ly _ q.1<|fj<|de q.2.2 _,(Obj.cls_mapFields ..).trans q.2.1,by rw[de q.2.2];simp[rawInt]⟩
theorem uk{it t:Addr}{Q:Sr}(hh:A.handled=none)(hit:s.heap.IsTupleIter it t i)(ht:s.heap.IsTuple t SJ)(hx:SJ[i]? = none)
  (hE:∀h' e,Heap.ExtBut it s.heap h'->(∃o,h'.get? e = some o/\o.cls = .type "StopIteration")->E (.ref e) {s with heap:=h'}) :wpAny (model prog w) A (Builtin.SmallTypes.nextOf (.ref it)) Q E s:=by
 obtain ⟨o,ho,hc,hd⟩:=id hit;obtain ⟨ol,hol,_,nl,hdl⟩:=ht;unfold Builtin.SmallTypes.nextOf;refine ae (dg (name:=Str.ofString "__next__") hit.typeIs ig (dY ig hit.typeIs F.entry_tuple_iterator_next ?_ (F.args_tuple_iterator_next_1 _)));show wpAny _ _ (field (.ref it) 0 >>= _) _ _ s
 refine ae<|bY ho hd (x:=.ref t) rfl ?_;show wpAny _ _ (if (Value.ref t==Value.none)=true then _ else _) _ _ s
 refine cR rfl ?_;show wpAny _ _ (field (.ref it) 1 >>= _) _ _ s
 refine ae<|bY ho hd (x:=.int i 0) rfl ?_;show wpAny _ _ (seqItems? (.ref t) >>= _) _ _ s
 refine ae<|fg hol hdl ?_;simp only[cj,hx];exact ae<|wpAny_rule<|ae<|pQ ho hd (by simp)<|xu hh λh' e k x=>hE h' e (λb o n q=>k b o<|(fW ..).extBut b o n q) x
noncomputable def vh(h:Heap)(it l:Addr)(S:Array Value)(k:Nat) :Bool->Prop
 | false=>h.IsTupleIter it l k/\h.IsTuple l S
 | true=>h.IsListIter it l k/\h.IsList l S
variable {h h':Heap}{it l z TI TO i1 i2 l1 l2:Addr}{S ys:Array Value}{k:Nat}{v x y:Value}{b b2:Bool}
theorem vh.at(x:vh h it l S k b)(q1:∀o,h.get? it=some o->h'.get? it=some o)(q2:∀o,h.get? l=some o->h'.get? l=some o) :vh h' it l S k b:=by cases b with
 | false=>obtain⟨⟨o,e,r⟩,o',e',r'⟩:=x;exact⟨⟨o,q1 o e,r⟩,o',q2 o' e',r'⟩
 | true=>obtain⟨⟨o,e,r⟩,o',e',r'⟩:=x;exact⟨⟨o,q1 o e,r⟩,o',q2 o' e',r'⟩
theorem FW{Q:Sr}(x:vh s.heap it l S k b)(hne:l≠it)(hx:S[k]? = some v)
  (hQ:∀h',vh h' it l S (k+1) b->Heap.SameBut it s.heap h'->Q v {s with heap:=h'}) :wpAny (model prog w) A (Builtin.SmallTypes.nextOf<|.ref it) Q E s:=by
 cases b with
 | false=>exact vT x.1 x.2 hx λh' a sb=>hQ h' ⟨a,x.2.extBut sb.extBut hne⟩ sb
 | true=>exact wpAny_nextOf_list_item x.1 x.2 hx λh' a sb=>hQ h' ⟨a,x.2.extBut sb.extBut hne⟩ sb
theorem Bz{Q:Sr}(hh:A.handled=none)(x:vh s.heap it l S k b)(hx:S[k]? = none)
  (hE:∀h' e,Heap.ExtBut it s.heap h'->(∃o,h'.get? e = some o/\o.cls = .type "StopIteration")->E (.ref e) {s with heap:=h'}) :wpAny (model prog w) A (Builtin.SmallTypes.nextOf (.ref it)) Q E s:=by
 cases b with
 | false=>exact uk hh x.1 x.2 hx hE
 | true=>exact wpAny_nextOf_list_end hh x.1 x.2 hx hE
abbrev zO(f0 f1:Value)(TI TO:Addr) :Obj:= {cls:=.type "zip",dict:=none,data:=.fields #[f0,f1,.bool false,.ref TI,.ref TO],slots:=#[]}
inductive ZF(h:Heap) :Value->Value->Prop
 | new:ZF h .none (.bool false)
 | out {T:Addr} {o:Obj} {c:Bool} :h.get? T=some o->ZF h (rawInt T) (.bool c)
inductive pL(z TI TO i1 i2 l1 l2:Addr)(S ys:Array Value)(k:Nat)(b b2:Bool)(h:Heap) :Prop
 | mk (f0 f1 u v:Value) :h.get? z=some (zO f0 f1 TI TO)->ZF h f0 f1->IsPair h TI (.ref i1) (.ref i2)->IsPair h TO u v->vh h i1 l1 S k b->vh h i2 l2 ys k b2->pL z TI TO i1 i2 l1 l2 S ys k b b2 h
theorem pL.at(D:pL z TI TO i1 i2 l1 l2 S ys k b b2 h)(q:∀c o,h.get? c=some o->h'.get? c=some o) :pL z TI TO i1 i2 l1 l2 S ys k b b2 h':=by obtain⟨f0,f1,u,v,hz,hf,hTI,hTO,h1,h2⟩:=D;refine⟨f0,f1,u,v,q _ _ hz,?_,q _ _ hTI,q _ _ hTO,h1.at (q _)<|q _,h2.at (q _)<|q _⟩;cases hf with
 | new=>exact .new
 | out e=>exact .out<|q _ _ e
theorem pL.ty(D:pL z TI TO i1 i2 l1 l2 S ys k b b2 s.heap) :s.TypeIs (.ref z) "zip":=by obtain⟨f0,f1,u,v,hz,_⟩:=D;exact⟨_,hz,rfl⟩
theorem Jf{T z:Addr}(q:T=z)(e:∃o,h.get? z=some o) :∃o,h.get? T=some o:=q▸e
theorem vh.live(x:vh h it l S k b) :∃o,h.get? it=some o:=by cases b with
 | false=>obtain⟨⟨o,e,_⟩,_⟩:=x;exact⟨o,e⟩
 | true=>obtain⟨⟨o,e,_⟩,_⟩:=x;exact⟨o,e⟩
theorem pL.but{d:Addr}(D:pL z TI TO i1 i2 l1 l2 S ys k b b2 h)(nd:d∉ [z,TI,TO,i1,i2,l1,l2])(q:∀c o,c≠d->h.get? c=some o->h'.get? c=some o)(hd:∃o,h'.get? d=some o) :pL z TI TO i1 i2 l1 l2 S ys k b b2 h':=by obtain⟨f0,f1,u,v,hz,hf,hTI,hTO,h1,h2⟩:=D;have n:∀c∈ [z,TI,TO,i1,i2,l1,l2], ∀o,h.get? c=some o->h'.get? c=some o:=λc hc o=>q c o λe=>nd<|e▸hc;refine⟨f0,f1,u,v,n _ (by simp) _ hz,?_,n _ (by simp) _ hTI,n _ (by simp) _ hTO,h1.at (n _ (by simp))<|n _ (by simp),h2.at (n _ (by simp))<|n _ (by simp)⟩;cases hf with
 | new=>exact .new
 | @out T o c e=>
  by_cases g:T=d
  .obtain⟨o',hd⟩:=Jf g hd;exact .out hd
  .exact .out (q _ _ g e)
theorem Eu{f0 f1:Value}{Q:Bool->Shared->Prop}(hz:s.heap.get? z=some (zO f0 f1 TI TO))(hf:ZF s.heap f0 f1)
  (hn:f0 = .none->f1 = .bool false->Q true s) (ho:∀h' (T:Addr) o,f0=rawInt T->h'.get? z=some (zO f0 (.bool true) TI TO)->s.heap.get? T=some o->(f1 = .bool true/\h'=s.heap\/f1 = .bool false/\Heap.SameBut z s.heap h')->Q false {s with heap:=h'}) :
  wpAny (model prog w) A (Builtin.SmallTypes.ownedTupleIsFree<|.ref z) Q E s:=by
 unfold Builtin.SmallTypes.ownedTupleIsFree;cases hf with
 | new=>exact ae<|bY hz rfl (x:=.none) rfl<|au<|hn rfl rfl
 | @out T o c e=>
  refine ae<|bY hz rfl (x:=rawInt T) rfl ?_;have al:∀{Q:Option Obj->Shared->Prop},Q (some o) s->wpAny (model prog w) A (loadIfAlive T) Q E s:=λ{Q} hq=>by
   have h':Q (s.heap.get? T) s:=by rw[e];exact hq
   exact λj0_ j1_ j2_=>h'
  refine ae<|al ?_;refine cR rfl ?_;refine ae<|bY hz rfl (x:=.bool c) rfl ?_;cases c with
  | true=>exact cR rfl <| au (ho s.heap T o rfl hz e<|.inl ⟨rfl,rfl⟩)
  | false=>exact wpAny_ite_true rfl <| ae (dX hz (by simp) λh' a sb=>au<|ho h' T o rfl a e<|.inr ⟨rfl,sb⟩)
theorem l6{Q:Sr}(hh:A.handled=none)(x:vh s.heap it l S k b)(hne:l≠it)(hQ:∀v h',S[k]? = some v->vh h' it l S (k+1) b->Heap.SameBut it s.heap h'->Q v {s with heap:=h'})
  (hE:S[k]? = none-> ∀h' e,Heap.ExtBut it s.heap h'->(∃o,h'.get? e = some o/\o.cls = .type "StopIteration")->E (.ref e) {s with heap:=h'}) :wpAny (model prog w) A (Builtin.SmallTypes.nextOf (.ref it)) Q E s:=by
 cases q:S[k]? with
 | none=>exact Bz hh x q<|hE q
 | some v=>exact FW x hne q λh' a sb=>hQ v h' q a sb
theorem Jw{Q:Sr}(hh:A.handled=none)(D:ZipApart z TI TO i1 i2 l1 l2)(SC:pL z TI TO i1 i2 l1 l2 S ys k b b2 s.heap)
  (hQ:∀x y,S[k]? = some x->ys[k]? = some y-> ∀h' T,s.heap.get? T=none->pL z TI TO i1 i2 l1 l2 S ys (k+1) b b2 h'->IsPair h' T x y->
   (∀c o,c≠z->c≠TO->c≠i1->c≠i2->s.heap.get? c=some o->h'.get? c=some o)->(IsZip s.heap z TI TO .none->IsZip h' z TI TO (rawInt T))->Q (.ref T) {s with heap:=h'})
  (hE:(S[k]? = none\/ys[k]? = none)-> ∀h' e,(∀c o,c≠z->c≠TO->c≠i1->c≠i2->s.heap.get? c = some o->h'.get? c = some o)->(∃o,h'.get? e = some o/\o.cls = .type "StopIteration")->E (.ref e) {s with heap:=h'}) :
  wpAny (model prog w) A (Builtin.«zip.__next__» ⟨[.ref z],[]⟩) (λfin s'=> ∃v,fin = .done (.ret v)/\Q v s') E s:=by
 obtain⟨f0,f1,u,v,hz,hf,hTI,hTO,h1,h2⟩:=SC;show wpAny _ _ (field (.ref z) 2 >>= _) _ _ _
 refine ae<|bY hz rfl (x:=.bool false) rfl ?_;refine ae<|bY hz rfl (x:=.ref TI) rfl ?_;refine ae<|fg hTI rfl ?_;refine ae<|Eu hz hf (λe0 e1=>?_) λh₁ T o e0 nJ hT hor=>?_
 .subst e0 e1;refine wpAny_ite_true rfl ?_;refine ae (wpAny_rule ?_);refine ae (bY hz rfl (x:=.ref TO) rfl ?_);refine ae (dX hz (by simp) λh₁ nJ pd=>?_);replace nJ:IsZip h₁ z TI TO .ellipsis:=nJ;have fin:(S[k]? = none\/ys[k]? = none)-> ∀ {eO:Heap} {e:Addr},(∀c o,c≠z->c≠TO->c≠i1->c≠i2->h₁.get? c = some o->eO.get? c = some o)->IsZip eO z TI TO .ellipsis->(∃o,eO.get? e = some o/\o.cls = .type "StopIteration")->wpAny (model prog w) A (setField (.ref z) 0 .none) (λj0_ s'=>E (.ref e) s') E {s with heap:=eO}:=λhn {eO e} k I4 he=>by
   obtain⟨oe,hoe,hce⟩:=he;have hez:e≠z:=λx=>by subst x;rw[I4]at hoe;injection hoe with hoe;subst hoe;simp at hce
   exact dX I4 (by simp) λj0 j0_ fS=>hE hn j0 e (λc o c1 c2 c3 c4 x=>fS.extBut _ _ c1<|k c o c1 c2 c3 c4<|pd.extBut _ _ c1 x) ⟨oe,fS.extBut _ _ hez hoe,hce⟩
  refine ae ?_;simp only[iu,List.zipIdx_nil,jc,List.forIn_nil];refine ae<|ae<|wpAny_onRaise ?_;refine ae<|l6 hh (h1.at (λo=>pd.extBut _ o D.i1z) (λo=>pd.extBut _ o D.l1z)) D.l1i1 (λx eO hx yb gG=>au ?_) λhn eO e gG he=>fin (.inl hn) (λc o j0_ j1_ c3 j2_ x=>gG _ _ c3 x) (gG _ _ D.i1z.symm nJ) he;refine ae<|fg (gG.extBut _ _ D.TOi1<|pd.extBut _ _ D.TOz hTO) rfl ?_;refine ae<|wpAny_updateSeq_pair (gG.extBut _ _ D.TOi1<|pd.extBut _ _ D.TOz hTO) λj0 sL fS=>?_;replace sL:IsPair j0 TO x v:=sL;refine ae<|wpAny_letGo<|au ?_;refine ae<|ae<|wpAny_onRaise ?_;have k3:∀c o,c≠z->c≠i1->c≠TO->s.heap.get? c=some o->j0.get? c=some o:=λc o c1 c2 c3 e=>fS.extBut _ _ c3<|gG.extBut _ _ c2<|pd.extBut _ _ c1 e;refine ae<|l6 hh (h2.at (λo e=>k3 _ o D.i2z D.i12.symm D.TOi2.symm e) λo e=>k3 _ o D.l2z D.l2i1 D.l2TO e) D.l2i2 (λy Lu hy OF lh=>au ?_) λhn Lu e lh he=>fin (.inr hn) (λc o j0_ c2 c3 c4 x=>lh _ _ c4<|fS.extBut _ _ c2<|gG.extBut _ _ c3 x) (lh _ _ D.i2z.symm<|fS.extBut _ _ D.TOz.symm<|gG.extBut _ _ D.i1z.symm nJ) he;refine ae<|fg (lh.extBut _ _ D.TOi2 sL) rfl ?_;refine ae<|wpAny_updateSeq_pair (lh.extBut _ _ D.TOi2 sL) λuC sK pc=>?_;replace sK:IsPair uC TO x y:=sK;refine ae<|wpAny_letGo<|au<|au ?_;refine ae<|fg sK rfl ?_;refine ae<|wpAny_newTuple ?_;have hsz:uC.objs.size=s.heap.objs.size:=by rw[pc.1,lh.1,fS.1,gG.1,pd.1]
  have I3:=pc.extBut _ _ D.TOz.symm (lh.extBut _ _ D.i2z.symm (fS.extBut _ _ D.TOz.symm (gG.extBut _ _ D.i1z.symm nJ)));have k5:∀c o,c≠z->c≠TO->c≠i1->c≠i2->s.heap.get? c=some o->uC.get? c=some o:=λc o c1 c2 c3 c4 e=>pc.extBut _ _ c2 (lh.extBut _ _ c4 (k3 c o c1 c3 c2 e));refine ae ?_;unfold Builtin.SmallTypes.ownedTupleHandOut;have OA:IsZip (uC.push {cls:=.type "tuple",data:=.seq #[x,y]}) z TI TO .ellipsis:=bP _ I3;refine ae (dX OA (by simp) λR3 Oz I6=>?_);refine dX Oz (by simp) λGW x7 I5=>?_;replace x7:IsZip GW z TI TO (rawInt uC.objs.size):=x7;have up:∀c o,c≠z->uC.get? c=some o->GW.get? c=some o:=λc o c1 e=>I5.extBut _ _ c1 (I6.extBut _ _ c1 (bP _ e));have zne:=iq (br I3);have x9:=I5.extBut _ _ zne (I6.extBut _ _ zne (bl _ rfl));refine au ⟨_,rfl,?_⟩;have kk:∀c o,c≠z->c≠TO->c≠i1->c≠i2->s.heap.get? c=some o->GW.get? c=some o:=λc o c1 c2 c3 c4 e=>up c o c1 (k5 c o c1 c2 c3 c4 e);exact hQ x y hx hy GW _ (by rw[hsz];exact fI (aQ _)) ⟨_,_,x,y,x7,.out x9,kk _ _ D.TIz D.TITO D.TIi1 D.TIi2 hTI,up _ _ D.TOz sK,yb.at (λo e=>up _ o D.i1z (pc.extBut _ _ D.TOi1.symm (lh.extBut _ _ D.i12 (fS.extBut _ _ D.TOi1.symm e)))) (λo e=>up _ o D.l1z (pc.extBut _ _ D.l1TO (lh.extBut _ _ D.l1i2 (fS.extBut _ _ D.l1TO e)))),OF.at (λo e=>up _ o D.i2z (pc.extBut _ _ D.TOi2.symm e)) (λo e=>up _ o D.l2z (pc.extBut _ _ D.l2TO e))⟩ x9 kk λj0_=>x7
 .have k1:∀c o,c≠z->s.heap.get? c=some o->h₁.get? c=some o:=λc o c1 e=>by
   rcases hor with⟨_,rfl⟩ | ⟨_,sb⟩
   .exact e
   .exact sb.extBut _ _ c1 e
  have hsz1:h₁.objs.size=s.heap.objs.size:=by
   rcases hor with⟨_,rfl⟩ | ⟨_,sb⟩
   .rfl
   .exact sb.1
  subst e0;refine cR rfl ?_;refine ae ?_;rw[<- Array.forIn_toList];simp only[jc,List.forIn_nil];refine ae<|ae<|d6 ?_;refine ae<|l6 (s:= {s with heap:=h₁}) hh (h1.at (λo=>k1 _ o D.i1z) (λo=>k1 _ o D.l1z)) D.l1i1 (λx eO hx yb gG=>au<|au ?_) λhn eO e gG he=>hE (.inl hn) eO e (λc o c1 j0_ c3 j1_ x=>gG _ _ c3<|k1 c o c1 x) he;refine ae<|ae<|d6 ?_;have k2:∀c o,c≠z->c≠i1->s.heap.get? c=some o->eO.get? c=some o:=λc o c1 c2 e=>gG.extBut _ _ c2<|k1 c o c1 e;refine ae<|l6 (s:= {s with heap:=eO}) hh (h2.at (λo e=>k2 _ o D.i2z D.i12.symm e) λo e=>k2 _ o D.l2z D.l2i1 e) D.l2i2 (λy j0 hy I8 fS=>au<|au<|au ?_) λhn j0 e fS he=>hE (.inr hn) j0 e (λc o c1 j0_ c3 c4 x=>fS _ _ c4<|k2 c o c1 c3 x) he;show wpAny _ _ (newTuple [x,y] >>= _) _ _ _
  refine ae<|wpAny_newTuple<|au ⟨_,rfl,?_⟩;have hsz:j0.objs.size=s.heap.objs.size:=by rw[fS.1,gG.1,hsz1]
  have P:∀ {c:Addr} {o:Obj},j0.get? c = some o->(j0.push {cls:=.type "tuple",data:=.seq #[x,y]}).get? c = some o:=λe=>bP _ e;have kk:∀c o,c≠z->c≠i1->c≠i2->s.heap.get? c=some o->j0.get? c=some o:=λc o c1 c2 c3 e=>fS.extBut _ _ c3 (k2 c o c1 c2 e);have x9:IsPair (j0.push {cls:=.type "tuple",data:=.seq #[x,y]}) j0.objs.size x y:=bl _ rfl;have CH:∃o,j0.get? T=some o:=by
   by_cases q1:T=i1
   .obtain⟨o,e⟩:=yb.live;exact⟨o,q1▸fS.extBut _ _ D.i12 e⟩
   by_cases q2:T=i2
   .exact q2▸I8.live
   by_cases q3:T=z
   .exact Jf q3 ⟨_,(fS.extBut _ _ D.i2z.symm<|gG.extBut _ _ D.i1z.symm nJ)⟩
   exact⟨o,kk T o q3 q1 q2 hT⟩
  obtain⟨oT,CH⟩:=CH;exact hQ x y hx hy _ _ (by rw[hsz];exact fI<|aQ _) ⟨_,_,u,v,P<|fS.extBut _ _ D.i2z.symm<|gG.extBut _ _ D.i1z.symm nJ,.out<|P CH,P<|kk _ _ D.TIz D.TIi1 D.TIi2 hTI,P<|kk _ _ D.TOz D.TOi1 D.TOi2 hTO,yb.at (λo e=>P<|fS.extBut _ _ D.i12 e) (λo e=>P<|fS.extBut _ _ D.l1i2 e),I8.at (λo e=>P e) (λo e=>P e)⟩ x9 (λc o c1 j0_ c3 c4 e=>P<|kk c o c1 c3 c4 e) λq=>by have q:=congrArg Obj.data<|nt<|hz.symm.trans q;exact nomatch q
theorem IM{Q:So->Shared->Prop}(hh:A.handled=none)(D:ZipApart z TI TO i1 i2 l1 l2)(SC:pL z TI TO i1 i2 l1 l2 S ys k b b2 s.heap)
  (hQ:∀x y,S[k]? = some x->ys[k]? = some y-> ∀h' T,s.heap.get? T=none->pL z TI TO i1 i2 l1 l2 S ys (k+1) b b2 h'->IsPair h' T x y->
   (∀c o,c≠z->c≠TO->c≠i1->c≠i2->s.heap.get? c=some o->h'.get? c=some o)->(IsZip s.heap z TI TO .none->IsZip h' z TI TO (rawInt T))->Q (some<|.ref T) {s with heap:=h'})
  (hE:(S[k]? = none\/ys[k]? = none)-> ∀h',(∀c o,c≠z->c≠TO->c≠i1->c≠i2->s.heap.get? c=some o->h'.get? c=some o)->Q none {s with heap:=h'}) :
  wpAny (model prog w) A (pyNext<|.ref z) Q E s:=by
 unfold pyNext;refine ae (wpAny_attempt (dg (name:=Str.ofString "__next__") SC.ty F.slot_zip_next (dY F.slot_zip_next SC.ty F.entry_zip_next (Jw hh D SC (λx y hx hy h' T a0 a1 a2 a3 a4=>au (hQ x y hx hy h' T a0 a1 a2 a3 a4)) λhn h' e hk he=>?_) (F.args_zip_next_1 _))));obtain ⟨o,ho,hc⟩:=he;exact ae (wpAny_isInstance (T:="StopIteration") (b:=true) ⟨o,ho,hc⟩ isSubtype_stop (au (hE hn _ hk)))
theorem oI{Q:So->Shared->Prop}(hh:A.handled=none)(D:ZipApart z TI TO i1 i2 l1 l2)(SC:pL z TI TO i1 i2 l1 l2 S ys k b b2 s.heap)(hx:S[k]? = some x)(hy:ys[k]? = some y)
  (hQ:∀h' T,s.heap.get? T=none->pL z TI TO i1 i2 l1 l2 S ys (k+1) b b2 h'->IsPair h' T x y->
   (∀c o,c≠z->c≠TO->c≠i1->c≠i2->s.heap.get? c=some o->h'.get? c=some o)->(IsZip s.heap z TI TO .none->IsZip h' z TI TO (rawInt T))->Q (some<|.ref T) {s with heap:=h'}) :
  wpAny (model prog w) A (pyNext<|.ref z) Q E s:=
 IM hh D SC (λx' y' hx' hy' h' T a0 a1 a2 a3 a4=>hQ h' T a0 a1 (nt (hx'.symm.trans hx)▸nt (hy'.symm.trans hy)▸a2) a3 a4) λhn=>hn.elim (λq=>nomatch q.symm.trans hx) λq=>nomatch q.symm.trans hy
theorem qC{Q:So->Shared->Prop}(hh:A.handled=none)(D:ZipApart z TI TO i1 i2 l1 l2)(SC:pL z TI TO i1 i2 l1 l2 S ys k b b2 s.heap)(hend:S[k]? = none\/ys[k]? = none)
  (hQ:∀h',(∀c o,c≠z->c≠TO->c≠i1->c≠i2->s.heap.get? c=some o->h'.get? c=some o)->Q none {s with heap:=h'}) :wpAny (model prog w) A (pyNext<|.ref z) Q E s:=
 IM hh D SC (λx y hx hy=>hend.elim (λq=>nomatch q.symm.trans hx) λq=>nomatch q.symm.trans hy) λj0_=>hQ
theorem Aq{Q:Sr}(SC:pL z TI TO i1 i2 l1 l2 S ys k b b2 s.heap)(h:Q (.ref z) s) :wpAny (model prog w) A (pyIter (.ref z)) Q E s:=by refine wpAny_pyIter_slot SC.ty F.slot_zip_iter (dY F.slot_zip_iter SC.ty F.entry_zip_iter ?_ (F.args_zip_iter_1 _));exact au ⟨_,rfl,"zip",_,SC.ty,F.slot_zip_next.lookup,h⟩
end
noncomputable def nj(h:Heap)(l:Addr)(S:Array Value) :Bool->Prop
 | false=>h.IsTuple l S
 | true=>h.IsList l S
abbrev QC(l:Addr)(b:Bool) :Obj:= {cls:=.type (if b then "list_iterator" else "tuple_iterator"),data:=.fields #[.ref l,.int 0 0]}
theorem nj.at{l:Addr}{b:Bool}(x:nj h l S b)(k:∀o,h.get? l=some o->h'.get? l=some o) :nj h' l S b:=by cases b with
 | false=>obtain⟨o,e,r⟩:=x;exact⟨o,k o e,r⟩
 | true=>obtain⟨o,e,r⟩:=x;exact⟨o,k o e,r⟩
theorem nj.its{i l:Addr}{b:Bool}(x:nj h l S b)(e:h.get? i=some (QC l b)) :vh h i l S 0 b:=by cases b with
 | false=>exact⟨⟨_,e,rfl,rfl⟩,x⟩
 | true=>exact⟨⟨_,e,rfl,rfl⟩,x⟩
theorem Cl{prog:Program}{w:World}{l:Addr}{b:Bool}{Q:Sr}(x:nj s.heap l S b)(h:Q (.ref s.heap.objs.size) {s with heap:=s.heap.push (QC l b)}) :wpAny (model prog w) A (pyIter<|.ref l) Q E s:=by cases b with
 | false=>exact wpAny_pyIter_tuple x h
 | true=>exact rt x h
set_option maxHeartbeats 4000000 in
theorem M3(l1 l2:Addr)(S ys:Array Value)(b b2:Bool) :Meets (Builtin.«zip.__new__» ⟨[.type "zip",.ref l1,.ref l2],[]⟩) (λj0_ R s=>nj s.heap l1 S b/\nj s.heap l2 ys b2/\
  ∀h',pL (s.heap.objs.size+4) (s.heap.objs.size+2) (s.heap.objs.size+3) s.heap.objs.size (s.heap.objs.size+1) l1 l2 S ys 0 b b2 h'->IsZip h' (s.heap.objs.size+4) (s.heap.objs.size+2) (s.heap.objs.size+3) .none->(∀c o,s.heap.get? c=some o->h'.get? c=some o)->R (.ok<|.ret<|.ref<|s.heap.objs.size+4) {s with heap:=h'}):=
 .of_wp λprog w A R s h=>by
  obtain⟨hp,g,d,tk,os⟩:=s;obtain⟨hl1,hl2,h⟩:=h;have hsub:=sub_zip;have P:∀{h:Heap}{c:Addr}{o:Obj}(o':Obj),h.get? c=some o->(h.push o').get? c=some o:=λo' e=>bP o' e;have N:∀{h:Heap}{n:Nat}(o:Obj),h.objs.size=n->o.isFreed=false->(h.push o).get? n=some o:=λ{h n} o e f=>e▸bl h f;have hL1:nj (Shared.heap ⟨hp,g,d,tk,os⟩) l1 S b:=hl1;have hL2:nj (Shared.heap ⟨hp.push<|QC l1 b,g,d,tk,os⟩) l2 ys b2:=hl2.at λo=>P _
  wp_walk using Cl hL1,Cl hL2
  refine⟨_,rfl,?_⟩;simp only[gg]at h |-;refine h _ ⟨_,_,_,_,N _ (by simp only[gg]) rfl,.new,P _<|P _<|N _ (by simp only[gg]) rfl,P _<|N _ (by simp only[gg]) rfl,(hl1.at λo e=>P _<|P _<|P _<|P _<|P _ e).its<|P _<|P _<|P _<|P _<|N _ rfl rfl,(hl2.at λo e=>P _<|P _<|P _<|P _<|P _ e).its<|P _<|P _<|P _<|N _ (by simp only[gg]) rfl⟩ (N _ (by simp only[gg]) rfl) λc o e=>P _<|P _<|P _<|P _<|P _ e
theorem DP{prog:Program}{w:World}{b b2:Bool}{Q:Sr}(hl1:nj s.heap l1 S b)(hl2:nj s.heap l2 ys b2)
  (h:∀h',pL (s.heap.objs.size+4) (s.heap.objs.size+2) (s.heap.objs.size+3) s.heap.objs.size (s.heap.objs.size+1) l1 l2 S ys 0 b b2 h'->IsZip h' (s.heap.objs.size+4) (s.heap.objs.size+2) (s.heap.objs.size+3) .none->(∀c o,s.heap.get? c=some o->h'.get? c=some o)->Q (.ref<|s.heap.objs.size+4) {s with heap:=h'}) :
  wpAny (model prog w) A (call (.type "zip") [.ref l1,.ref l2]) Q E s:=
 callType_new F.called_zip (by decide) (F.typeCall_zip_2 _ _) (F.newCall_zip_2 _ _) (λobj=>F.args_object_init_3 obj _ _) F.entry_zip_new (M3 l1 l2 S ys b b2) ⟨hl1,hl2,λh' SC q k=>⟨SC.ty,h h' SC q k⟩⟩
section
variable {prog:Program}{w:World}{A:Around}{E:Sr}{s:Shared}
theorem Ce:typeLookup (.type "zip") "keys" = pure none:=nq (by kernel_rfl)
theorem Jv:typeLookup (.type "zip") "__getattr__" = pure none:=nq (by kernel_rfl)
theorem sV:entryFor table "zip.__getattribute__" = some Builtin.«object.__getattribute__»:=
 entryFor_alias (id':="object.__getattribute__") (by kernel_rfl) (by decide +kernel) (by decide +kernel) (by kernel_rfl)
theorem Ao(a:Addr)(S:Array Value)(u:Tok) :Meets (Builtin.«object.__getattribute__» ⟨[.ref a,.str "keys" u],[]⟩) (λA R s=>s.heap.get? a = some {cls:=.type "zip",dict:=none,data:=.fields S,slots:=#[]}/\raisesAttr (.ref a) "keys" A R s):=
 Meets.of_wp λprog w A R s G=>by
  obtain ⟨hp,g,d,tk,os⟩:=s;have hx:=G.1; have G:=G.2;have hT:(⟨hp,g,d,tk,os⟩ :Shared).TypeIs (.ref a) "zip":=⟨_,hx,rfl⟩
  have hk:=Ce;unfold Builtin.«object.__getattribute__»
  repeat (any_goals (first | assumption | wp_step))
  try simp only [show (["__module__","__name__","__qualname__","__doc__","__annotations__"] :Sd).contains "keys" = false by decide,gz,if_false]
  repeat (any_goals (first | assumption | wp_step))
  exact wpAny_raiseAttrError G.1 G.2<|attrMsg_fits (by decide +kernel) (by size_fits)
theorem vn{Q:So->Shared->Prop}(hx:s.heap.get? a = some {cls:=.type "zip",dict:=none,data:=.fields S,slots:=#[]})(hA:A.handled = none)
  (h:∀h' tk,(∀b o,s.heap.get? b = some o->h'.get? b = some o)->Q none {s with heap:=h',toks:=tk}) :wpAny (model prog w) A (getAttr? (.ref a) "keys") Q E s:=by
 obtain ⟨hp,g,d,tk,os⟩:=s;have hT:∀tk',(⟨hp,g,d,tk',os⟩ :Shared).TypeIs (.ref a) "zip":=λj0_=>⟨_,hx,rfl⟩
 have f1:=sub_AttributeError;have f3:=F.slot_zip_getattribute.lookup;have f4:=F.slot_zip_getattribute.bind<|.ref a;have f5:=Jv;unfold getAttr? getAttrBy? getAttrBy
 repeat (any_goals (first | assumption | exact hT _ | ((with_reducible show wpAny _ _ (call (Value.builtin "zip.__getattribute__") _ _) _ _ _); refine call_meets F.slot_zip_getattribute (hT _) sV (F.args_zip_getattribute_2 _ _) (Ao a S _) ⟨hx,hA,λh' tk' e hx'=>?_⟩) | wp_step))
 refine kL hx'.there λt' u' he=>?_;unfold getattributeRaised
 repeat (any_goals (first | assumption | wp_step))
 exact h _ _ hx'.of.keeps
theorem y8:typeLookup (.type "list") "keys" = pure none:=nq (by kernel_rfl)
theorem uu{Q:So->Shared->Prop}(hx:s.heap.get? a = some {cls:=.type "list",data:=.seq S n})(hA:A.handled = none)
  (h:∀h' tk,(∀b o,s.heap.get? b = some o->h'.get? b = some o)->Q none {s with heap:=h',toks:=tk}) :wpAny (model prog w) A (getAttr? (.ref a) "keys") Q E s:=by
 obtain ⟨hp,g,d,tk,os⟩:=s;have hT:∀tk',(⟨hp,g,d,tk',os⟩ :Shared).TypeIs (.ref a) "list":=λj0_=>⟨_,hx,rfl⟩
 have f1:=sub_AttributeError;have f3:=F.slot_list_getattribute.lookup;have f4:=F.slot_list_getattribute.bind<|.ref a;have f5:=am_list_getattr_none;unfold getAttr? getAttrBy? getAttrBy
 repeat (any_goals (first | assumption | exact hT _ | ((with_reducible show wpAny _ _ (call (Value.builtin "list.__getattribute__") _ _) _ _ _); refine call_meets F.slot_list_getattribute (hT _) am_entry_list_getattribute (F.args_list_getattribute_2 _ _) (meets_getattribute_miss_list a S n #[] "keys" _ y8 (by decide) (by size_fits)) ⟨hx,hA,λh' tk' e hx'=>?_⟩) | wp_step))
 refine kL hx'.there λt' u' he=>?_;unfold getattributeRaised
 repeat (any_goals (first | assumption | wp_step))
 exact h _ _ hx'.of.keeps
theorem kO:entryFor table "dict.update.loop" = some Builtin.«dict.update.loop»:=entryFor_of_tree (by kernel_rfl)
theorem fP:plainId "dict.update.loop" = true:=by decide +kernel
end
section
variable [Hp]
variable {A:Around}{E:Sr}{s:Shared}{Z:Ss}{a:Value}{z TI TO i1 i2 l1 l2 d:Addr}{S ys:Si}{b b2:Bool}{R:Result->Shared->Prop}
theorem kP{l r:List α}{v:α}(h:l.drop i=v::r) :l.toArray[i]? = some v/\l.drop (i+1)=r:=by refine⟨?_,by refine Er List.tail_drop.symm<|Er h ?_;rfl⟩;refine Er gO ?_;have:=congrArg (·[0]?) h;simpa using this
theorem qX{l:List α}(h:l.drop i=[]) :l.toArray[i]? = none:=
 Er gO (fk<|List.drop_eq_nil_iff.mp h)
noncomputable def vP(z TO i1 i2 d c:Addr) :Prop:=c≠z/\c≠TO/\c≠i1/\c≠i2/\c≠d
theorem Dx{k:Nat}(hh:A.in1.handled=none)(ZA:ZipApart z TI TO i1 i2 l1 l2)(nd:d∉ [z,TI,TO,i1,i2,l1,l2])(zZ:∀c,Z c->vP z TO i1 i2 d c)(SC:pL z TI TO i1 i2 l1 l2 S.toArray ys.toArray k b b2 s.heap)(hend:S.toArray[k]? = none\/ys.toArray[k]? = none)
  (hd:s.heap.DictOf (strKind prog w) d us) (K:RepKV s.heap Z us SN) (hb:us.length<=1000)
  (hR:∀h' tk us',h'.DictOf (strKind prog w) d us'->RepKV h' Z us' SN->us'.length<=1000->(∀c o,vP z TO i1 i2 d c->s.heap.get? c=some o->h'.get? c=some o)->R (.ok<|.ret .none) {s with heap:=h',toks:=tk}) :
  codeAny (model prog w) A (.builtin "dict.update.loop" ⟨[.ref d,.ref z,rawInt k,.none],[]⟩) R s:=by
 refine codeAny_builtin kO ?_;refine Er (mM fP _) ?_;refine ae<|qC hh ZA SC hend λh' ex=>?_;have ko:∀c o,vP z TO i1 i2 d c->s.heap.get? c=some o->h'.get? c=some o:=λc o q e=>ex c o q.1 q.2.1 q.2.2.1 q.2.2.2.1 e;have hd':h'.DictOf (strKind prog w) d us:=by exact m5 hd λo es ep hd=>(⟨o,es,ep,ex d o (λq=>nd (by simp[q])) (λq=>nd (by simp[q])) (λq=>nd (by simp[q])) (λq=>nd (by simp[q])) hd.1,hd.2⟩)
 exact ae<|au<|au<|hR h' s.toks us hd' (K.mono (λc o z e=>ko c o (zZ c z) e) λj0_ z=>z) hb ko
theorem HY(hh:A.in1.handled=none)(ZA:ZipApart z TI TO i1 i2 l1 l2)(nd:d∉ [z,TI,TO,i1,i2,l1,l2])(zZ:∀c,Z c->vP z TO i1 i2 d c) :∀ks O k s us SK SN,pL z TI TO i1 i2 l1 l2 S.toArray ys.toArray k b b2 s.heap->RepAll s.heap Z (S.drop k) ks->RepAll s.heap Z (ys.drop k) O->jH SK (gT ks O)=some SN->
  s.heap.DictOf (strKind prog w) d us->RepKV s.heap Z us SK->us.length+ks.length<=1000->
  (∀h' tk us',h'.DictOf (strKind prog w) d us'->RepKV h' Z us' SN->us'.length<=1000->(∀c o,vP z TO i1 i2 d c->s.heap.get? c=some o->h'.get? c=some o)->R (.ok<|.ret .none) {s with heap:=h',toks:=tk})->
  codeAny (model prog w) A (.builtin "dict.update.loop" ⟨[.ref d,.ref z,rawInt k,.none],[]⟩) R s:=by
 intro ks;induction ks with
 | nil=>intro O k s us SK SN SC RX RY he hd K hb hR;generalize hv:S.drop k=r at RX;refine cX λG2 g2=>?_;cases RX;obtain rfl:=bO he;exact g2<|Dx hh ZA nd zZ SC (.inl<|qX hv) hd K hb hR
 | cons c ks ih=>
  intro O k s us SK SN SC RX RY he hd K hb hR;generalize hv:S.drop k=r at RX;generalize hw:ys.drop k=r' at RY;refine cX λG1 g1=>?_;cases RX with
  | @cons x r1 _ _ rx RX=>
  refine g1 ?_;refine cX λSD g=>?_;cases RY with
  | nil=>refine g ?_;obtain rfl:=bO he;exact Dx hh ZA nd zZ SC (.inr<|qX hw) hd K (af (aq _ _) hb) hR
  | @cons y r2 e O ry RY=>
  refine g ?_;refine cX λG3 g3=>?_;cases rx with
  | str kx t o1 o2=>
   refine g3 ?_;refine codeAny_builtin kO ?_;refine Er (mM fP _) ?_;refine ae<|oI hh ZA SC (kP hv).1 (kP hw).1 λh₁ T nT Q6 hT ex j0_=>?_;have OD:h₁.DictOf (strKind prog w) d us:=by exact m5 hd λo es ep hd=>(⟨o,es,ep,ex d o (λq=>nd (by simp[q])) (λq=>nd (by simp[q])) (λq=>nd (by simp[q])) (λq=>nd (by simp[q])) hd.1,hd.2⟩)
   refine ae (d6 ?_);refine ae (wpAny_tryCatch ?_);unfold Builtin.Dict.pairItems;refine ae (wpAny_typeOf (T:="tuple") ⟨_,hT,rfl⟩ ?_);refine Er (if_pos (by decide)) ?_;refine ae (fg hT rfl (au ?_));refine d6 (wpAny_dictSet_pairs (s:= {s with heap:=h₁}) (strKind_is _ _ kx t) OD (λeO x8 ub=>?_) (by refine Er dR.symm ?_; exact af (af (aq _ _) hb) (by decide)));have k2:∀c o,vP z TO i1 i2 d c->s.heap.get? c=some o->eO.get? c=some o:=λc o q e=>ub.extBut c o q.2.2.2.2 (ex c o q.1 q.2.1 q.2.2.1 q.2.2.2.1 e);have kz:∀c o,Z c->s.heap.get? c=some o->eO.get? c=some o:=λc o z e=>k2 c o (zZ c z) e;have hlen:(stored us kx y).length<=us.length+1:=by
    unfold stored;split
    .simp
    .simp
   refine au ⟨plainId_quiet fP _,?_⟩;refine ih O (k+1) {s with heap:=eO,toks:=s.toks+1} (stored us kx y) (f8 SK kx e) SN (Q6.but nd (λc o q e=>ub.extBut c o q e) (let ⟨o,_,_,e,_⟩:=x8;⟨o,e⟩)) ((kP hv).2▸RX.mono kz λj0_ z=>z) ((kP hw).2▸RY.mono kz λj0_ z=>z) he x8 ((K.set o1 o2 ry).mono kz λj0_ z=>z) ?_ λh' tk us' a1 a2 a3 a4=>hR h' tk us' a1 a2 a3 λc o q e=>a4 c o q<|k2 c o q e;have:us.length+(ks.length+1)<=1000:=hb;omega
  | _=>exact g3<|bz he
theorem AM{h:Heap}(G:3<h.objs.size) :(h.objs.size==sysModules)=false:=by rw[iQ];intro e;rw[e]at G;exact absurd G (by decide)
inductive Ps(h:Heap)(Z:Ss)(v:Value)(ks:Sb) :Prop
 | mk (l:Addr) (S:Si) (b:Bool) :v = .ref l->nj h l S.toArray b->l<h.objs.size->RepAll h Z S ks->Ps h Z v ks
theorem eX.sqL{v:Value}{ks:Sb}(ra:eX h Z v (.list ks)) :Ps h Z v ks:=by obtain⟨l,S,n,rfl,hl,_,R⟩:=ra.list;exact⟨l,S,true,rfl,⟨_,hl,rfl,_,rfl⟩,br hl,R⟩
theorem eX.sqT{v:Value}{ks:Sb}(ra:eX h Z v (.tuple ks)) :Ps h Z v ks:=by obtain⟨l,S,n,rfl,hl,_,R,_⟩:=ra.tuple;exact⟨l,S,false,rfl,⟨_,hl,rfl,_,rfl⟩,br hl,R⟩
theorem Bq{ks O:Sb}{r:Rv}{b:Value}(G:3<s.heap.objs.size)(hh:A.handled=none)(he:(if ks.length<=1000 then(jH []<|gT ks O).map λSN=>Rv.own (.dict SN) else none)=some r)(ra:Ps s.heap Z a ks)(rb:Ps s.heap Z b O)(zl:∀b,Z b-> ∃o,s.heap.get? b=some o) :
  wpAny (model prog w) A (call (.type "zip") [a,b]) (λv aM=>wpAny (model prog w) A (call (.type "dict") [v]) (Op Z s r) E aM) E s:=by
 refine cX λSD g=>?_;obtain⟨hx,he⟩:=Cv he;obtain⟨l1,S,b1,rfl,hl1,a1,R1⟩:=ra;obtain⟨l2,ys,b2,rfl,hl2,a2,R2⟩:=rb;obtain⟨SN,hk,rfl⟩:=aT.mp he;generalize hN:s.heap.objs.size=N at *;refine g ?_;refine DP hl1 hl2 λh₁ SC j0_ k1=>?_;rw[hN]at SC |-;have lt1:N+4<h₁.objs.size:=by obtain⟨_,_,_,_,e,_,_,_,_,_⟩:=SC;exact br e
 let H1:=h₁.push {cls:=.type "dict",data:=.dict #[]}
 refine callType_codes (Q₁:=λobj aM=>obj = .ref h₁.objs.size/\aM={s with heap:=H1}) PySem.F.kt_called_dict (PySem.F.kt_typeCall_dict_1 _) PySem.F.entry_dict_init (kt_code_dict_new (s:= {s with heap:=h₁}) _ ⟨rfl,rfl⟩) ?_;rintro obj aM ⟨rfl,rfl⟩;refine ⟨(Heap.DictOf.new h₁:H1.DictOf (strKind prog w) h₁.objs.size []).typeIs,PySem.F.args_dict_init_2 _ _,?_⟩;unfold Builtin.«dict.__init__»;refine ae ?_;unfold Builtin.Dict.selfAndRest;refine ae (wpAny_notOrdered_dict (Heap.DictOf.new h₁:H1.DictOf (strKind prog w) h₁.objs.size []).typeIs ?_);refine au ?_;show wpAny _ _ (Builtin.Dict.updateFrom "dict.__init__" h₁.objs.size (.ref (N + 4)) [] .none) _ _ _
 unfold Builtin.Dict.updateFrom;have S1:pL (N+4) (N+2) (N+3) N (N+1) l1 l2 S.toArray ys.toArray 0 b1 b2 H1:=SC.at λc o e=>pK _ c o e;refine ae (wpAny_typeOf (T:="zip") S1.ty (s:= {s with heap:=H1}) ?_);refine Er (if_pos (by decide)) ?_;obtain ⟨zx,hz1⟩ :∃S,H1.get? (N + 4) = some {cls:=.type "zip",dict:=none,data:=.fields S,slots:=#[]}:=by obtain ⟨_,_,_,_,e,_,_,_,_,_⟩:=S1; exact ⟨_,e⟩
 refine ae<|vn (s:= {s with heap:=H1}) hz1 (by simp[hh]) λeO tQ k2=>?_;refine Er (if_pos (show(none:So).isNone=true from rfl)) ?_;refine ae<|wpAny_rule<|ae<|Aq (s:= {s with heap:=eO,toks:=tQ}) (S1.at λc o e=>k2 c o e) ?_;have k3:∀c o,s.heap.get? c=some o->eO.get? c=some o:=λc o e=>k2 c o<|pK _ c o<|k1 c o e;refine au ⟨plainId_quiet fP _,?_⟩;have off:∀c,c<N->vP (N+4) (N+3) N (N+1) h₁.objs.size c:=λc h=>⟨bW<|aV h<|aq _ _,bW<|aV h<|aq _ _,bW h,bW<|aV h<|aq _ _,bW<|ir (aV h<|aq _ 4) lt1⟩
 refine HY (s:= {s with heap:=eO,toks:=tQ}) (Z:=Z) (by simp[hh]) (zipApart_new a1 a2) (λq=>by simp only[am,bc,fh]at q;rcases q with q | q | q | q | q | q | q <;> (rw[q]at lt1;first | exact fN N (ir (aL (aq N 4) lt1) a1) | exact fN N (ir (aL (aq N 4) lt1) a2) | (first | exact(Lf [N] [Gl (.p 1<|.p 4 .x)<|.p 4 .x] rfl lt1) | exact(Lf [N] [Gl (.p 1<|.p 4 .x)<|.p 2 .x] rfl lt1) | exact(Lf [N] [Gl (.p 1<|.p 4 .x)<|.p 3 .x] rfl lt1) | exact(Lf [N] [Gl (.p 1<|.p 4 .x) .x] rfl lt1) | exact(Lf [N] [Gl (.p 1<|.p 4 .x)<|.p 1 .x] rfl lt1)))) (λc z=>off c (by refine aR (zl c z) λo e=>?_;exact hN▸br e)) ks O 0 [] [] SN (S1.at λc o e=>k2 c o e) (by refine Er km ?_;exact R1.mono (λc o j0_=>k3 c o) λj0_ z=>z) (by refine Er km ?_;exact R2.mono (λc o j0_=>k3 c o) λj0_ z=>z) hk ((Heap.DictOf.new h₁:H1.DictOf (strKind prog w) h₁.objs.size []).keep k2) .nil (by simpa using hx) λh' tk us' a1 a2 a3 a4=>?_;exact⟨rfl,h',tk,rfl,λc o e=>a4 c o (off c<|hN▸br e)<|k3 c o e,.own (fI (by omega))<|.dict ⟨AM (h:=h₁) (by omega),a1⟩ (af a3 (by decide)) a2⟩
theorem FO{d e:D}{b:Value}(G:3<s.heap.objs.size)(hh:A.handled=none)(he:pI .dzip [d,e]=some r)(ra:eX s.heap Z a d)(rb:eX s.heap Z b e)(zl:∀b,Z b-> ∃o,s.heap.get? b=some o) :
  wpAny (model prog w) A (call (.type "zip") [a,b]) (λv aM=>wpAny (model prog w) A (call (.type "dict") [v]) (Op Z s r) E aM) E s:=by
 cases d with
 | list ks=>cases e with
  | tuple O=>exact Bq G hh he ra.sqL rb.sqT zl
  | _=>exact bz he
 | tuple ks=>cases e with
  | tuple O=>exact Bq G hh he ra.sqT rb.sqT zl
  | list O=>exact Bq G hh he ra.sqT rb.sqL zl
  | _=>exact bz he
 | _=>exact bz he
end
section
variable [Hp]
variable {A:Around}{E:Sr}{s:Shared}{Z:Ss}{a:Value}{I d l:Addr}{O:Si}{R:Result->Shared->Prop}
theorem IsLI.at{h h':Heap}{a t:Addr}{i:Nat}(x:h.IsListIter a t i)(k:∀o,h.get? a=some o->h'.get? a=some o) :h'.IsListIter a t i:=let ⟨o,e,r⟩:=x;⟨o,k o e,r⟩
theorem zV(hh:A.in1.handled=none)(hId:I≠d)(hlI:l≠I)(hld:l≠d)(zI:¬Z I)(zd:¬Z d) :∀V i s us SK SN,s.heap.IsListIter I l i->s.heap.IsList l O.toArray->RepAll s.heap Z (O.drop i) V->jH SK V=some SN->s.heap.DictOf (strKind prog w) d us->RepKV s.heap Z us SK->us.length+V.length<=1000->
  (∀h' tk us',h'.DictOf (strKind prog w) d us'->RepKV h' Z us' SN->us'.length<=1000->(∀b o,b≠I->b≠d->s.heap.get? b=some o->h'.get? b=some o)->R (.ok<|.ret .none) {s with heap:=h',toks:=tk})->
  codeAny (model prog w) A (.builtin "dict.update.loop" ⟨[.ref d,.ref I,rawInt i,.none],[]⟩) R s:=by
 intro V i s us SK SN hi hl RA he hd K hb hR;induction V generalizing i s us SK SN hi hl hd K hR with
 | nil=>
  have hn:O.toArray[i]? = none:=by generalize hv:O.drop i=r at RA;cases RA;exact Er gO<|fk<|List.drop_eq_nil_iff.mp hv
  obtain rfl:=bO he;refine codeAny_builtin kO ?_;refine Er (mM fP _) ?_;refine ae<|wpAny_pyNext_list_end hh hi hl hn λh' ex=>?_;have kz:∀b o,Z b->s.heap.get? b=some o->h'.get? b=some o:=λb o z e=>ex b o (λq=>zI<|q▸z) e;exact ae<|au<|au<|hR h' s.toks us (hd.extBut ex<|Ne.symm hId) (K.mono kz λj0_ z=>z) hb λb o n1 j0_ e=>ex b o n1 e
 | cons x V ih=>
  generalize hv:O.drop i=r at RA;cases RA with
  | @cons v r' _ _ rv RA=>
  have hx:O.toArray[i]? = some v:=by refine Er gO ?_;have:=congrArg (·[0]?) hv;simpa using this
  have hv':O.drop (i+1)=r':=by refine Er List.tail_drop.symm<|Er hv ?_;rfl
  cases rv with
  | @tuple T us2 n2 ds2 zT hT hn2 R2=>
   cases R2 with
   | nil=>exact bz he
   | @cons k r2 dk ds2 rk R2=>
   cases R2 with
   | nil=>exact bz (by cases rk <;> exact he)
   | @cons y r3 dy ds3 ry R2=>
   cases R2 with
   | cons=>exact bz (by cases rk <;> exact he)
   | nil=>
   cases rk with
   | str kx t o1 o2=>
    refine codeAny_builtin kO ?_;rw[mM fP _];refine ae (wpAny_pyNext_list_item hi hl hx λh₁ OC sb=>?_);have k1:∀b o,b≠I->s.heap.get? b=some o->h₁.get? b=some o:=λb o q e=>sb.extBut b o q e;refine ae (d6 ?_);refine ae (wpAny_tryCatch ?_);unfold Builtin.Dict.pairItems;refine ae (wpAny_typeOf (T:="tuple") ⟨_,(k1 T _ (λq=>zI (q▸zT)) hT),rfl⟩ ?_);refine Er (if_pos (by decide)) ?_;refine ae (fg (k1 T _ (λq=>zI (q▸zT)) hT) rfl (au ?_));refine d6 (wpAny_dictSet_pairs (s:= {s with heap:=h₁}) (strKind_is _ _ kx t) (hd.extBut sb.extBut (Ne.symm hId)) (λeO x8 ub=>?_) (by refine Er dR.symm ?_; exact af (af (aq _ _) hb) (by decide)));have k2:∀b o,b≠I->b≠d->s.heap.get? b=some o->eO.get? b=some o:=λb o q q' e=>ub.extBut b o q' (k1 b o q e);have kz:∀b o,Z b->s.heap.get? b=some o->eO.get? b=some o:=λb o z e=>k2 b o (λq=>zI (q▸z)) (λq=>zd (q▸z)) e;have hlen:(stored us kx y).length<=us.length+1:=by
     unfold stored;split
     .simp
     .simp
    refine au ⟨plainId_quiet fP _,?_⟩;refine ih (i+1) {s with heap:=eO,toks:=s.toks+1} (stored us kx y) (f8 SK kx dy) SN (IsLI.at OC λo e=>ub.extBut I o hId e) (hl.at λo e=>k2 l o hlI hld e) (hv'▸RA.mono kz λj0_ z=>z) he x8 ((K.set o1 o2 ry).mono kz λj0_ z=>z) (by have:us.length+(V.length+1)<=1000:=hb;omega) λh' tk us' a1 a2 a3 a4=>hR h' tk us' a1 a2 a3 λb o q q' e=>a4 b o q q'<|k2 b o q q' e
   | _=>exact bz he
  | _=>exact bz he
theorem FP{d:D}(G:3<s.heap.objs.size)(hh:A.handled=none)(he:pI .dict [d]=some r)(ra:eX s.heap Z a d)(zl:∀b,Z b-> ∃o,s.heap.get? b=some o) :
  wpAny (model prog w) A (call (.type "dict") [a]) (Op Z s r) E s:=by
 have nz:¬Z s.heap.objs.size:=λz=>by obtain⟨o,e⟩:=zl _ z;rw[ya]at e;exact bz e
 cases d with
 | list S=>
  obtain⟨l,O,n,rfl,hl,hn,R⟩:=ra.list;obtain⟨hx,he⟩ :S.length<=1000/\((jH [] S).map λSN=>Rv.own<|.dict SN)=some r:=by
   have he:(if S.length<=1000 then(jH [] S).map λSN=>Rv.own (.dict SN) else none)=some r:=he;by_cases q:S.length<=1000
   .rw[if_pos q]at he;exact⟨q,he⟩
   .rw[if_neg q]at he;exact bz he
  obtain⟨SN,hk,rfl⟩:=aT.mp he;let H1:=s.heap.push {cls:=.type "dict",data:=.dict #[]}
  have z1:H1.objs.size=s.heap.objs.size+1:=gg ..;refine callType_codes (Q₁:=λobj aM=>obj = .ref s.heap.objs.size/\aM={s with heap:=H1}) PySem.F.kt_called_dict (PySem.F.kt_typeCall_dict_1 _) PySem.F.entry_dict_init (kt_code_dict_new _ ⟨rfl,rfl⟩) ?_;rintro obj aM ⟨rfl,rfl⟩;have hnew:H1.DictOf (strKind prog w) s.heap.objs.size []:=Heap.DictOf.new s.heap;refine ⟨hnew.typeIs,PySem.F.args_dict_init_2 _ _,?_⟩;unfold Builtin.«dict.__init__»;refine ae ?_;unfold Builtin.Dict.selfAndRest;refine ae (wpAny_notOrdered_dict hnew.typeIs ?_);refine au ?_;show wpAny _ _ (Builtin.Dict.updateFrom "dict.__init__" s.heap.objs.size (.ref l) [] .none) _ _ _
  unfold Builtin.Dict.updateFrom;have hl1:H1.get? l = some {cls:=.type "list",data:=.seq O.toArray n}:=bP _ hl;refine ae (wpAny_typeOf (T:="list") ⟨_,hl1,rfl⟩ ?_);refine Er (if_pos (by decide)) ?_;refine ae (uu (s:= {s with heap:=H1}) hl1 (by simp [hh]) λeO tQ k2=>?_);refine Er (if_pos (show (none:So).isNone=true from rfl)) ?_;refine ae (wpAny_rule (ae (rt (s:= {s with heap:=eO,toks:=tQ}) (⟨_,k2 _ _ hl1,rfl,n,rfl⟩ :eO.IsList l O.toArray) ?_)));let H3:=eO.push {cls:=.type "list_iterator",data:=.fields #[.ref l,.int 0 0]}
  have k3:∀b o,s.heap.get? b=some o->H3.get? b=some o:=λb o e=>pK _ b o<|k2 b o<|pK _ b o e;have hd2:=hnew.keep k2;have lt2:s.heap.objs.size<eO.objs.size:=by refine m5 hd2 λo j0_ j1_ hd2=>?_;have e:=hd2.1;exact br e
  refine au ⟨plainId_quiet fP _,?_⟩;refine zV (O:=O) (Z:=Z) (l:=l) (s:= {s with heap:=H3,toks:=tQ}) (by simp[hh]) (iq lt2) (bW<|ir (br hl) lt2) (bW<|br hl) (λz=>?_) nz S 0 [] [] SN ⟨_,bl _ rfl,rfl,rfl⟩ ⟨_,pK _ _ _<|k2 _ _ hl1,rfl,n,rfl⟩ (by refine Er km ?_;exact R.mono (λb o j0_=>k3 b o) λj0_ z=>z) hk (hd2.push _) .nil (by simpa using hx) λh' tk us' a1 a2 a3 a4=>?_
  .obtain⟨o,e⟩:=zl _ z;have:=br e;exact absurd (ir this lt2)<|fN _
  .refine⟨rfl,h',tk,rfl,λb o e=>?_,.own (ya _)<|.dict ⟨AM G,a1⟩ (af a3 (by decide)) a2⟩;exact a4 b o (bW<|ir (br e) lt2) (bW<|br e)<|k3 b o e
 | _=>exact bz he
end
theorem uf:Manifest.owners.lookup (String.ofList ['d','e','s','r','e','v','e','r'].reverse)=some Manifest.sig_reversed:=by kernel_rfl
theorem fZ:PySem.Slot "reversed" "__next__" "reversed.__next__":=
 .of (owner:="reversed") (n:="__next__") (by rw [typeLookup_type]; refine Er lr ?_; kernel_rfl) (by decide +kernel) (by decide +kernel) (by decide +kernel) (.inl (by decide +kernel)) (by rw [isSubtype_type]; kernel_rfl)
theorem lW:PySem.Slot "reversed" "__iter__" "reversed.__iter__":=
 .of (owner:="reversed") (n:="__iter__") (by rw [typeLookup_type]; refine Er lr ?_; kernel_rfl) (by decide +kernel) (by decide +kernel) (by decide +kernel) (.inl (by decide +kernel)) (by rw [isSubtype_type]; kernel_rfl)
theorem rQ:PySem.Slot "reversed" "__init__" "object.__init__":=
 .of (owner:="object") (n:="__init__") (by rw [typeLookup_type]; refine Er lr ?_; kernel_rfl) (by decide +kernel) (by decide +kernel) (by decide +kernel) (.inl (by decide +kernel)) (by rw [isSubtype_type]; kernel_rfl)
theorem li:entryFor table "reversed.__next__" = some Builtin.«reversed.__next__»:=entryFor_of_tree (by kernel_rfl)
theorem qr:entryFor table "reversed.__iter__" = some Builtin.«dict_keyiterator.__iter__»:=
 entryFor_alias (id':="dict_keyiterator.__iter__") (by kernel_rfl) (by first | rfl | decide +kernel | (unfold String.splitOn; simp +decide [String.splitOnAux])) (by decide +kernel) (by kernel_rfl)
theorem mD(a:Value) :argsOk "reversed.__next__" ⟨[a],[]⟩:=by unfold argsOk; refine Er (signature?_of (id:="reversed.__next__") (n:=['_','_','t','x','e','n','_','_']) (o:=['d','e','s','r','e','v','e','r']) (by kernel_rfl) uf) ?_; kernel_rfl
theorem tx(a:Value) :argsOk "reversed.__iter__" ⟨[a],[]⟩:=by unfold argsOk; refine Er (signature?_of (id:="reversed.__iter__") (n:=['_','_','r','e','t','i','_','_']) (o:=['d','e','s','r','e','v','e','r']) (by kernel_rfl) uf) ?_; kernel_rfl
theorem z8:TypeCalled "reversed" "reversed.__new__" "object.__init__":=
 ⟨by decide +kernel,by decide +kernel,⟨_,_,F.mro_reversed⟩,F.made_reversed,by decide +kernel,F.sub_reversed_self,rQ⟩
theorem yM:typeLookup (.type "tuple") "__reversed__" = pure none:=nq (by kernel_rfl)
theorem AD:isSubtype (.type "tuple") (.type "dict") = pure false:=by rw [isSubtype_type]; kernel_rfl
noncomputable def tB(h:Heap)(a t:Addr)(i:Int) :Prop:=h.get? a = some {cls:=.type "reversed",dict:=none,data:=.fields #[.ref t,rawInt i],slots:=#[]}
theorem tB.at{a t:Addr}(x:tB h a t i)(k:∀o,h.get? a=some o->h'.get? a=some o) :tB h' a t i:=k _ x
theorem Ko(t:Addr)(SJ:Array Value)(hz:(SJ.size:Int) < 2 ^ 63) :Meets (Builtin.«reversed.__new__» ⟨[.type "reversed",.ref t],[]⟩) (λj0_ R s=>IsTup s.heap t SJ/\
  ∀tk,R (.ok (.ret (.ref s.heap.objs.size))) {s with heap:=s.heap.push {cls:=.type "reversed",data:=.fields #[.ref t,rawInt ((SJ.size:Int) - 1)]},toks:=tk}):=
 .of_wp λprog w A R s h=>by
  unfold Builtin.«reversed.__new__»;refine ae<|mK (newClass_reversed _) ?_
  try dsimp only
  refine ae<|mK (a:=()) (by first | rfl | kernel_rfl) ?_;refine ae<|mK (a:=()) (by first | rfl | kernel_rfl) ?_
  try dsimp only
  refine ae<|wpAny_specialOf h.1.typeIs yM ?_
  try dsimp only
  refine ae ?_;refine ae (wpAny_isInstance h.1.typeIs AD ?_);refine ae (wpAny_specialOf h.1.typeIs slot_tuple_getitem.lookup ?_);refine wpAny_ite_true rfl ?_;refine au ?_;refine cR rfl ?_;refine ae (len_tuple h.1 hz ?_);refine ae (mK (a:=some (SJ.size:Int)) rfl ?_);refine ae ?_;show wpAny _ _ (newObj (.type "reversed") (.fields #[.ref t,rawInt ((SJ.size:Int) - 1)])) _ _ _
  exact cc<|au ⟨_,rfl,h.2 _⟩
theorem Rv.next{s:Shared}{prog:Program}{w:World}{A:Around}{E:Sr}{it t:Addr}{i:Nat}{SJ:Array Value}{x:Value}{Q:So->Shared->Prop}(hit:tB s.heap it t (i:Int))(ht:IsTup s.heap t SJ)(hx:SJ[i]? = some x)(hz:(SJ.size:Int)<2 ^ 63)
  (hQ:∀h' tk,tB h' it t ((i:Int) - 1)->Heap.SameBut it s.heap h'->Q (some x) {s with heap:=h',toks:=tk}) :wpAny (model prog w) A (pyNext<|.ref it) Q E s:=by
 have ho:=hit;unfold pyNext;refine ae (wpAny_attempt (dg (name:=Str.ofString "__next__") (⟨_,ho,rfl⟩) fZ (dY fZ (⟨_,ho,rfl⟩) li ?_ (mD _))));show wpAny _ _ (field (.ref it) 0 >>= _) _ _ _
 refine ae<|bY ho rfl (x:=.ref t) rfl ?_;refine ae<|bY ho rfl (x:=rawInt (i:Int)) rfl ?_;refine cR (aA<|pV.mpr<|cH i) ?_;refine ae<|wpAny_specialOf ht.typeIs slot_tuple_getitem.lookup ?_;refine cR rfl ?_;refine ae<|wpAny_mkInt ?_;refine ae<|wpAny_attempt<|getItem_tuple (s:= {s with toks:=s.toks+1}) (j:=i) ht (sB [i] [] 1 (.le (.g<|.c 9223372036854775808)<|.n<|.v 0) [] rfl) (sB [i,SJ.size] [] 1 (.le (.a (.n<|.v 0)<|.c 1)<|.c 9223372036854775808) [(1,.le (.a (.n<|.v 1)<|.c 1)<|.c 9223372036854775808),(1,.nle (.a (.v 0)<|.c 1)<|.v 1)] rfl hz<|(ii.mp hx).1) ?_ hx ?_
 .show(if (decide (0<=if (i:Int)<0 then(i:Int)+SJ.size else i)&&decide ((if (i:Int)<0 then(i:Int)+SJ.size else i)<SJ.size))=true then some (if (i:Int)<0 then(i:Int)+SJ.size else i).toNat else none)=some i
  rw[if_neg (show ¬(i:Int)<0 by exact(λmvo20=>(qj [i] [] [(1,.le (.a (.n<|.v 0)<|.c 1)<|.c 0)] rfl mvo20)))];refine Er (if_pos (by simp[((ii.mp hx).1)])) ?_;rfl
 exact ae<|bY (s:= {s with toks:=s.toks+1}) ho rfl (x:=rawInt (i:Int)) rfl<|ae<|dX (s:= {s with toks:=s.toks+1}) ho (by simp) λh' h1 h2=>au ⟨x,rfl,au<|hQ h' _ h1 h2⟩
theorem Rv.last{prog:Program}{w:World}{it t:Addr}{Q:So->Shared->Prop}(hh:A.handled=none)(hit:tB s.heap it t (-1))
  (hQ:∀h',Heap.ExtBut it s.heap h'->Q none {s with heap:=h'}) :wpAny (model prog w) A (pyNext<|.ref it) Q E s:=by
 have ho:=hit;unfold pyNext;refine ae (wpAny_attempt (dg (name:=Str.ofString "__next__") (⟨_,ho,rfl⟩) fZ (dY fZ (⟨_,ho,rfl⟩) li ?_ (mD _))));show wpAny _ _ (field (.ref it) 0 >>= _) _ _ _
 refine ae (bY ho rfl (x:=.ref t) rfl ?_);refine ae (bY ho rfl (x:=rawInt (-1)) rfl ?_);refine wpAny_ite_true rfl ?_;refine ae (wpAny_rule (ae ?_));refine ae (dX ho (by simp) λh₁ h1 s1=>?_);refine dX (s:= {s with heap:=h₁}) h1 (by simp) λeO h2 s2=>?_;refine ae (xu (s:= {s with heap:=eO}) hh λh' e k x=>?_);exact aR x λo x=>(ae (wpAny_isInstance (T:="StopIteration") (b:=true) ⟨o,x.1,x.2⟩ isSubtype_stop (au (hQ _ λb o n e=>k b o (s2.extBut b o n (s1.extBut b o n e))))))
theorem Rv.iter{prog:Program}{w:World}{it t:Addr}{Q:Sr}(hit:tB s.heap it t i)(h:Q (.ref it) s) :wpAny (model prog w) A (pyIter<|.ref it) Q E s:=by
 have hT:s.TypeIs (.ref it) "reversed":=⟨_,hit,rfl⟩
 refine wpAny_pyIter_slot hT lW (dY lW hT qr ?_ (tx _));exact au ⟨_,rfl,"reversed",_,hT,fZ.lookup,h⟩
theorem Ik{prog:Program}{w:World}{t:Addr}{Q:Sr}(ht:IsTup s.heap t SJ)(hz:(SJ.size:Int)<2 ^ 63)
  (h:∀tk,Q (.ref s.heap.objs.size) {s with heap:=s.heap.push {cls:=.type "reversed",data:=.fields #[.ref t,rawInt ((SJ.size:Int) - 1)]},toks:=tk}) :wpAny (model prog w) A (call (.type "reversed") [.ref t]) Q E s:=
 callType_new z8 (by decide) (F.typeCall_reversed_1 _) (F.newCall_reversed_1 _) (λobj=>F.args_object_init_2 obj _) F.entry_reversed_new (Ko t SJ hz) ⟨ht,λtk=>⟨⟨_,bl _ rfl,rfl⟩,h tk⟩⟩
theorem Walks.rv{prog:Program}{w:World}{A:Around}(hh:A.handled=none)(I t:Addr)(hne:t≠I)(SJ:Array Value)(hz:(SJ.size:Int)<2 ^ 63) :
  Walks prog w A I [I,t] [I] SJ.size (λi v=>SJ[SJ.size - 1 - i]? = some v) (λi h=>i<=SJ.size/\tB h I t ((SJ.size:Int) - 1 - (i:Int))/\IsTup h t SJ) where
 sub:=λb hb=>by simp at hb;simp[hb]
 frame:=λj0_ j1_ j2_ x hk=>⟨x.1,x.2.1.at λo e=>hk I (by simp) o e,let ⟨o,e,r⟩:=x.2.2;⟨o,hk t (by simp) o e,r⟩⟩
 item:=λi s Q E hi x hQ=>by have hit:=x.2.1;rw[show(SJ.size:Int) - 1 - (i:Int)=((SJ.size - 1 - i:Nat) :Int) by omega]at hit;have hx:SJ[SJ.size - 1 - i]? = some (SJ[SJ.size - 1 - i]'(by omega)):=qB<|(by omega);refine Rv.next hit x.2.2 hx hz λh' tk hit' hs'=>?_;rw[show((SJ.size - 1 - i:Nat) :Int) - 1=(SJ.size:Int) - 1 - ((i+1:Nat) :Int) by omega]at hit';exact hQ _ h' tk hx ⟨hi,hit',x.2.2.extBut hs'.extBut hne⟩ λb o hb eo=>hs'.extBut b o (λh=>hb (by simp[h])) eo
 done:=λs Q E x hQ=>by have hit:=x.2.1;rw[show(SJ.size:Int) - 1 - (SJ.size:Int) = -1 by omega]at hit;exact Rv.last hh hit λh' he'=>hQ h' s.toks λb o hb eo=>he' b o (λh=>hb (by simp[h])) eo
 self:=λj0_ j1_ j2_ j3_ x hQ=>Rv.iter x.2.1 hQ
structure Tb where
 fn:List DefRec
 gl:Sd
 cl:Sd:=[]
 hc:Sd:=[]
 hb:Str->Sd
 m0:Nat:=0
 m1:Nat:=0
 rb:List Sg:=[]
 cr:Nat->Option ClsRec
 an:Sd:=[]
 sub:List (Str×Sd×Sd):=[]
 sbt:List (Sd×Sd×Sd):=[]
noncomputable def Jn(x:Str) :Option ClsRec:=(clssOf Hq.view []).find? λc=>c.name==x
noncomputable def MZ(c:Option ClsRec) :List DefRec:=(c.elim [] (·.meths)).map (λm=>⟨m.name,m.params,m.body,m.scope,default⟩)
noncomputable def ka(k:Nat) :Str:=if k = 0 then "Making" else "Machine"
def tb:Tb:=⟨recsOf Hq.view++(MZ (Jn<|ka 0)++MZ (Jn<|ka 1)),Lq.gls,Lq.cls,Lq.hcs,λc=>if c=Lq.x_HalfError then Lq.cls else [c],44,51,(Lq.P.fns.drop 44).map (·.rb),λk=>Jn<|ka k,Lq.ans,Lq.sb,Lq.sbt⟩
def kf(f:Nat) :Nat:=if f<tb.m1 then 0 else 1
def mi(k:Nat) :Nat:=if k=0 then tb.m0 else tb.m1
structure Sc where
 names:List (Str×NameKind)
 vars:List (Str×Nat)
 hi:Nat
 sn:Str:=⟨#[]⟩
 ats:List (Str×Nat):=[]
 k:Nat:=0
noncomputable def Sc.isG(U:Sc)(x:Str) :Prop:=U.names.lookup x = some .globalImplicit/\(x == ("__debug__" :Str)) = false
noncomputable def Sc.isV(U:Sc)(x:Str)(i:Nat) :Prop:=U.vars.lookup x = some i/\(x == ("__debug__" :Str)) = false
structure Sc.isA(U:Sc)(x a:Str)(i:Nat) :Prop where
 sn:x=U.sn
 at':U.ats.lookup a=some i
 st:a∈(tb.cr U.k).elim [] (·.statics)
 db:(x == ("__debug__" :Str)) = false
noncomputable def Sc.as(U:Sc) :Sg:=U.ats.map (·.2)
inductive PE(U:Sc) :Expr->Nat->Prop
 | nm {x:Str} {pos:Pos} {i:Nat} :U.isV x i->PE U (.Name x pos) i
 | atr {x a:Str} {p pos:Pos} {i:Nat} :U.isA x a i->PE U (.Attribute (.Name x p) a pos) i
inductive gf:Const->D->Prop
 | none:gf .none .none
 | bool (b:Bool) :gf (.bool b) (.bool b)
 | int (i:Int) :gf (.int i) (.int i)
 | str (x:Str) :PyData.strOk x=true->x.cps.size<=Sz->gf (.str x) (.str x)
noncomputable def FQ:MA->Operator
 | .add=>.Add | .sub=>.Sub | .mul=>.Mult | .fdiv=>.FloorDiv | .mod=>.Mod | .pow=>.Pow
noncomputable def Am(j:Bool) :BoolOp:=match j with
 | true=>.And
 | false=>.Or
noncomputable def gN:Bi->Str
 | .len=>"len" | .isi _=>"isinstance" | .sum=>"sum" | .dict=>"dict" | .abs=>"abs" | .int=>"int" | .tuple=>"tuple" | .list=>"list" | .str=>"str"
 | _=>"len"
noncomputable def Bi.one:Bi->Bool
 | .len=>true | .sum=>true | .dict=>true | .abs=>true | .int=>true | .tuple=>true | .list=>true | .str=>true
 | _=>false
noncomputable def DX:Expr->Bool
 | .Name _ _=>true
 | .Constant _ _ _=>true
 | _=>false
inductive KS:List (Option Expr)->Sd->Prop
 | nil:KS [] []
 | cons {k:Str} {kk:Nat} {p:Pos} {es:List (Option Expr)} {ks:Sd} :KS es ks->KS (some (.Constant (.str k) kk p)::es) (k::ks)
noncomputable def Q9(ks:Sd) :Prop:= ∀k∈ks,PyData.strOk k=true/\k.cps.size<=Sz
inductive BX(U:Sc) :Expr->Bi->Sn->Prop
 | dzip {p p' pos pos':Pos} {a b:Expr} :U.isG "dict"->U.isG "zip"->BX U (.Call (.Name "dict" p) [.Call (.Name "zip" p') [a,b] [] pos'] [] pos) .dzip [a,b]
 | dict0 {pos:Pos} :BX U (.Dict [] [] pos) .dict0 []
noncomputable def gM(scope:Scope)(U:Sc)(O:Sd)(i:Nat) :Sc:=⟨scope.names,O.zipIdx i++U.vars.filter λp=>decide<|scope.names.lookup p.1=some .free,i+O.length,⟨#[]⟩,[],U.k⟩
inductive CG(i:Nat) :Expr->Sd->ja->Prop
 | one {v:Str} {p:Pos} :CG i (.Name v p) [v] (.one i)
 | two {a b:Str} {pa pb p:Pos} {k:Nat} :CG i (.Tuple [.Name a pa,.Name b pb] k p) [a,b] (.tup [i,i+1])
structure kg(scope:Scope)(U:Sc)(O:Sd) :Prop where
 kind:scope.kind = .function
 names:∀x∈scope.names,x.2 = .local->scope.names.lookup x.1=some .local
 cell:∀x∈scope.names,x.2≠ .cell
 loc:∀v∈O,scope.names.lookup v=some .local
 vnd:O.Nodup
 free:∀x∈scope.names,x.2 = .free->scope.names.lookup x.1 = some .free/\(x.1 == ("__classdict__" :Str)) = false/\(∃i,U.vars.lookup x.1 = some i)/\(U.names.lookup x.1 = some .cell\/U.names.lookup x.1 = some .free)
 nodup:((scope.names.filter λx=>x.2 == .free).map (·.1)).Nodup
noncomputable def kZ.pairs:kZ->Bool
 | .zip=>true
 | .enum=>true
 | _=>false
inductive Sy where
 | e (e:Expr) (x:Ex)
 | s (es:Sn) (S:List Ex)
 | o (o:Option Expr) (x:Ex)
 | i (e:Expr) (it:kZ) (src:List Ex)
inductive NS(U:Sc) :Sn->Sd->Prop
 | nil:NS U [] []
 | cons {x:Str} {p:Pos} {es:Sn} {S:Sd} :U.isG x->NS U es S->NS U (.Name x p::es) (x::S)
class inductive CQ:Sc->Sy->Prop
 | lit {U:Sc} {c:Const} {k:Nat} {pos:Pos} {d:D} :gf c d->CQ U (.e (.Constant c k pos)<|.lit d)
 | var {U:Sc} {x:Str} {pos:Pos} {i:Nat} :U.isV x i->CQ U (.e (.Name x pos)<|.var i)
 | pl {U:Sc} {x:Str} {pos:Pos} {i:Nat} :U.isV x i->CQ U (.e (.Name x pos)<|.pl<|.var i)
 | gl {U:Sc} {x:Str} {pos:Pos} {k:Nat} :U.isG x->tb.gl[k]? = some x->CQ U (.e (.Name x pos)<|.gl k)
 | tup {U:Sc} {es:Sn} {k:Nat} {pos:Pos} {S:List Ex} :CQ U (.s es S)->S.length<=1000->CQ U (.e (.Tuple es k pos)<|.tup S)
 | list {U:Sc} {es:Sn} {pos:Pos} {S:List Ex} :CQ U (.s es S)->S.length<=1000->CQ U (.e (.List es pos)<|.list S)
 | op2 {U:Sc} {a b:Expr} {pos:Pos} {o:MA} {x y:Ex} :CQ U (.e a x)->CQ U (.e b y)->CQ U (.e (.BinOp a (FQ o) b pos)<|.op2 o x y)
 | neg {U:Sc} {a:Expr} {pos:Pos} {x:Ex} :CQ U (.e a x)->CQ U (.e (.UnaryOp .USub a pos)<|.neg x)
 | not {U:Sc} {a:Expr} {pos:Pos} {x:Ex} :CQ U (.e a x)->CQ U (.e (.UnaryOp .Not a pos)<|.not x)
 | cmp {U:Sc} {a b:Expr} {pos:Pos} {o:Cm} {x y:Ex} :CQ U (.e a x)->CQ U (.e b y)->CQ U (.e (.Compare a [iO o] [b] pos)<|.cmp o x y)
 | cmp2 {U:Sc} {a b e:Expr} {pos:Pos} {o p:Cm} {x y z:Ex} :CQ U (.e a x)->CQ U (.e b y)->CQ U (.e e z)->CQ U (.e (.Compare a [iO o,iO p] [b,e] pos)<|.cmp2 o p x y z)
 | bo {U:Sc} {j:Bool} {es:Sn} {pos:Pos} {S:List Ex} :CQ U (.s es S)->CQ U (.e (.BoolOp (Am j) es pos)<|.bo j S)
 | idx {U:Sc} {a i:Expr} {pos:Pos} {x z:Ex} :CQ U (.e a x)->CQ U (.e i z)->CQ U (.e (.Subscript a i pos)<|.idx x z)
 | slc {U:Sc} {a:Expr} {lo hi:Option Expr} {p pos:Pos} {x l h:Ex} :CQ U (.e a x)->CQ U (.o lo l)->CQ U (.o hi h)->CQ U (.e (.Subscript a (.Slice lo hi none p) pos)<|.slc x l h)
 | call {U:Sc} {f:Nat} {d:DefRec} {p pos:Pos} {args:Sn} {S:List Ex} :tb.fn[f]? = some d/\f<tb.m0->U.isG d.name->CQ U (.s args S)->args.length<=29->CQ U (.e (.Call (.Name d.name p) args [] pos)<|.call f S)
 | callw {U:Sc} {f:Nat} {d:DefRec} {p pos:Pos} {args all:Sn} {e:Expr} {S:List Ex} {x:Ex} :tb.fn[f]? = some d/\f<tb.m0->U.isG d.name->CQ U (.s args S)->CQ U (.e e x)->all=args++[e]->CQ U (.e (.Call (.Name d.name p) all [] pos)<|.callw f S x)
 | bi1 {U:Sc} {b:Bi} {p pos:Pos} {a:Expr} {x:Ex} :b.one=true->U.isG (gN b)->CQ U (.e a x)->CQ U (.e (.Call (.Name (gN b) p) [a] [] pos)<|.bi b [x])
 | isi {U:Sc} {t:Ty} {p p' pos:Pos} {a:Expr} {x:Ex} :U.isG "isinstance"->U.isG (fL t)->CQ U (.e a x)->CQ U (.e (.Call (.Name "isinstance" p) [a,.Name (fL t) p'] [] pos) (.bi (.isi t) [x]))
 | comp {U:Sc} {elt iter g:Expr} {O:Sd} {t:ja} {pos:Pos} {gQ:Sn} {scope:Scope} {i:Nat} {it:kZ} {src conds:List Ex} {x:Ex} :CG i g O t->(it.pairs=true->t.isTup=true)->CQ U (.i iter it src)->kg scope U O->U.hi<=i->
   CQ (gM scope U O i) (.e elt x)->CQ (gM scope U O i) (.s gQ conds)->CQ U (.e (.ListComp elt [⟨g,iter,gQ,0⟩] scope pos)<|.comp x t it src conds)
 | disp {U:Sc} {kes:List (Option Expr)} {ks:Sd} {vals:Sn} {S:List Ex} {pos:Pos} :KS kes ks->CQ U (.s vals S)->ks.Nodup/\Q9 ks->ks.length=S.length->ks≠ []/\ks.length<=15->CQ U (.e (.Dict kes vals pos)<|.disp ks S)
 | bx {U:Sc} {e:Expr} {b:Bi} {es:Sn} {S:List Ex} :BX U e b es->CQ U (.s es S)->CQ U (.e e<|.bi b S)
 | isx {U:Sc} {x C:Str} {p p1 p2 pos:Pos} {i:Nat} {yes no:Sd} :U.isG "isinstance"->U.isV x i->U.isG C->tb.sub.lookup C = some (yes,no)->CQ U (.e (.Call (.Name "isinstance" p) [.Name x p1,.Name C p2] [] pos) (.isx i yes no))
 | isxt {U:Sc} {x:Str} {cs:Sd} {es:Sn} {p p1 p2 pos:Pos} {k i:Nat} {yes no:Sd} :U.isG "isinstance"->U.isV x i->NS U es cs->cs.length<=1000->tb.sbt.lookup cs = some (yes,no)->CQ U (.e (.Call (.Name "isinstance" p) [.Name x p1,.Tuple es k p2] [] pos) (.isx i yes no))
 | avar {U:Sc} {x a:Str} {p pos:Pos} {i:Nat} :U.isA x a i->CQ U (.e (.Attribute (.Name x p) a pos)<|.var i)
 | apl {U:Sc} {x a:Str} {p pos:Pos} {i:Nat} :U.isA x a i->CQ U (.e (.Attribute (.Name x p) a pos)<|.pl<|.var i)
 | mcall {U:Sc} {f:Nat} {d:DefRec} {x:Str} {p ap pos:Pos} {args:Sn} {S:List Ex} :tb.fn[f]? = some d/\tb.m0<=f/\kf f = U.k/\tb.rb[f - tb.m0]? = some []->x = U.sn/\(x == ("__debug__" :Str)) = false/\U.ats≠ []->(ap.endLine == pos.line) = true->CQ U (.s args S)->args.length<=28->
   CQ U (.e (.Call (.Attribute (.Name x p) d.name ap) args [] pos)<|.mcall f U.as S)
 | pop {U:Sc} {o:Expr} {ap pos:Pos} {i:Nat} :PE U o i->(ap.endLine == pos.line) = true->CQ U (.e (.Call (.Attribute o "pop" ap) [] [] pos) (.pop (.var i)))
 | cnt {U:Sc} {x:Str} {p ap kp pos:Pos} {k i:Nat} {b:Bool} :U.isV x i->(ap.endLine == pos.line) = true->CQ U (.e (.Call (.Attribute (.Name x p) "count" ap) [.Constant (.bool b) k kp] [] pos) (.cnt i b))
 | tin {U:Sc} {s a x:Str} {p ap px pos:Pos} {i j:Nat} :U.isV x j->U.isA s a i->CQ U (.e (.Compare (.Name x px) [.NotIn] [.Attribute (.Name s p) a ap] pos)<|.tin i<|.var j)
 | tget {U:Sc} {s a x:Str} {p ap px pos:Pos} {i j:Nat} :U.isV x j->U.isA s a i->CQ U (.e (.Subscript (.Attribute (.Name s p) a ap) (.Name x px) pos)<|.tget i<|.var j)
 | nil {U:Sc} :CQ U (.s [] [])
 | cons {U:Sc} {e:Expr} {es:Sn} {x:Ex} {S:List Ex} :CQ U (.e e x)->CQ U (.s es S)->CQ U (.s (e::es) (x::S))
 | onone {U:Sc} :CQ U (.o none<|.lit .none)
 | osome {U:Sc} {e:Expr} {x:Ex} :CQ U (.e e x)->CQ U (.o (some e) x)
 | seq {U:Sc} {e:Expr} {x:Ex} :CQ U (.e e x)->CQ U (.i e .seq [x])
 | range {U:Sc} {p pos:Pos} {e:Expr} {x:Ex} :U.isG "range"->CQ U (.e e x)->CQ U (.i (.Call (.Name "range" p) [e] [] pos) .range [x])
 | rev {U:Sc} {p pos:Pos} {e:Expr} {x:Ex} :U.isG "reversed"->CQ U (.e e x)->CQ U (.i (.Call (.Name "reversed" p) [e] [] pos) .rev [x])
 | zip {U:Sc} {p pos:Pos} {a b:Expr} {x z:Ex} :U.isG "zip"->CQ U (.e a x)->CQ U (.e b z)->CQ U (.i (.Call (.Name "zip" p) [a,b] [] pos) .zip [x,z])
 | enum {U:Sc} {p pos:Pos} {e:Expr} {x:Ex} :U.isG "enumerate"->CQ U (.e e x)->CQ U (.i (.Call (.Name "enumerate" p) [e] [] pos) .enum [x])
noncomputable abbrev CE(U:Sc)(e:Expr)(x:Ex) :Prop:=CQ U<|.e e x
noncomputable abbrev Em(U:Sc)(es:Sn)(S:List Ex) :Prop:=CQ U<|.s es S
noncomputable abbrev Sa(U:Sc)(o:Option Expr)(x:Ex) :Prop:=CQ U<|.o o x
noncomputable abbrev IT(U:Sc)(e:Expr)(it:kZ)(src:List Ex) :Prop:=CQ U<|.i e it src
noncomputable def iI:Expr->Bool
 | .ListComp ..=>false
 | .SetComp ..=>false
 | .DictComp ..=>false
 | _=>true
noncomputable def xP:Expr->Bool
 | .Tuple _ _ _=>false
 | _=>true
inductive Rd(e:Expr)(env:Env)(rest:Sn)(op:CmpOp)(v o' i':Value)(o i:Expr)(p:Pos)(l:Nat)(t:Option Expr)(es:Sn)(k:Nat) :Prop
 | mk:starEach (e::rest) env=(false,eval e env)::starEach rest env->behindInMarks op e=false->foldedSetIterable e env v=pure v->subscripted e false o' i'=operate [o',i'] (getItem o' i')->
  swapsWith e (some<|.Subscript o i p) l env=pure false->(iI e=false\/swapsWith e t l env=pure false)->(xP e=false\/swappedStores [.Tuple es k p] e env=pure none)->Rd e env rest op v o' i' o i p l t es k
noncomputable def shp:Expr->Bool
 | .Starred _ _=>false
 | .Set _ _ _=>false
 | .Slice _ _ _ _=>false
 | .SetComp _ _ _ _=>false
 | .DictComp _ _ _ _ _=>false
 | _=>true
inductive Sx:Ex->Prop
 | lit (d:D) :Sx (.lit d)
 | var (i:Nat) :Sx (.var i)
 | pl (p:Pl) :Sx (.pl p)
 | gl (k:Nat) :Sx (.gl k)
inductive CI(U:Sc) :Expr->Ex->Prop
 | comp {elt iter g:Expr} {O:Sd} {t:ja} {pos:Pos} {gQ:Sn} {scope:Scope} {i:Nat} {it:kZ} {src conds:List Ex} {x:Ex} :CG i g O t->(it.pairs=true->t.isTup=true)->IT U iter it src->kg scope U O->U.hi<=i->
   CE (gM scope U O i) elt x->Em (gM scope U O i) gQ conds->CI U (.ListComp elt [⟨g,iter,gQ,0⟩] scope pos) (.comp x t it src conds)
 | lit {c:Const} {k:Nat} {pos:Pos} {d:D} :gf c d->CI U (.Constant c k pos) (.lit d)
 | nm {x:Str} {pos:Pos} {z:Ex} :Sx z->CI U (.Name x pos) z
 | other {e:Expr} {z:Ex} :iI e=true->DX e=false->shp e=true->CI U e z
noncomputable def RI(U:Sc) :Sy->Prop
 | .e e x=>CI U e x
 | .i e _ _=>(∃x,CE U e x)\/ ∀(env:Env)(v:Value),foldedSetIterable e env v=pure v
 | _=>True
theorem CQ.ci{q:Sy}(h:CQ U q) :RI U q:=
 CQ.casesOn (motive:=λU q j0_=>RI U q) h (λh=>CI.lit h) (λj0_=>CI.nm<|.var _) (λj0_=>CI.nm<|.pl _) (λj0_ j1_=>CI.nm<|.gl _) (λj0_ j1_=>CI.other rfl rfl rfl) (λj0_ j1_=>CI.other rfl rfl rfl) (λj0_ j1_=>CI.other rfl rfl rfl) (λj0_=>CI.other rfl rfl rfl) (λj0_=>CI.other rfl rfl rfl) (λj0_ j1_=>CI.other rfl rfl rfl) (λj0_ j1_ j2_=>CI.other rfl rfl rfl) (λj0_=>CI.other rfl rfl rfl) (λj0_ j1_=>CI.other rfl rfl rfl) (λj0_ j1_ j2_=>CI.other rfl rfl rfl) (λj0_ j1_ j2_ j3_=>CI.other rfl rfl rfl) (λj0_ j1_ j2_ j3_ j4_=>CI.other rfl rfl rfl) (λj0_ j1_ j2_=>CI.other rfl rfl rfl) (λj0_ j1_ j2_=>CI.other rfl rfl rfl) (λh0 hz h1 h2 h3 h4 h5=>CI.comp h0 hz h1 h2 h3 h4 h5) (λj0_ j1_ j2_ j3_ j4_=>CI.other rfl rfl rfl) (λ{U _ _ _ S} h _=>BX.casesOn (motive:=λe b j0_ j1_=>CI U e<|.bi b S) h (λj0_ j1_=>.other rfl rfl rfl)<|.other rfl rfl rfl) (λj0_ j1_ j2_ j3_=>CI.other rfl rfl rfl) (λj0_ j1_ j2_ j3_ j4_=>CI.other rfl rfl rfl) (λj0_=>CI.other rfl rfl rfl) (λj0_=>CI.other rfl rfl rfl) (λj0_ j1_ j2_ j3_ j4_=>CI.other rfl rfl rfl) (λj0_ j1_=>CI.other rfl rfl rfl) (λj0_ j1_=>CI.other rfl rfl rfl) (λj0_ j1_=>CI.other rfl rfl rfl) (λj0_ j1_=>CI.other rfl rfl rfl) trivial (λj0_ j1_=>trivial) trivial (λj0_=>trivial) (λh=>.inl ⟨_,h⟩) (λj0_ j1_=>.inr λj0_ j1_=>rfl) (λj0_ j1_=>.inr λj0_ j1_=>rfl) (λj0_ j1_ j2_=>.inr λj0_ j1_=>rfl) (λj0_ j1_=>.inr λj0_ j1_=>rfl)
theorem CE.ci{e:Expr}{x:Ex}(h:CE U e x) :CI U e x:=CQ.ci h
theorem CE.shp{e:Expr}{x:Ex}(h:CE U e x) :shp e=true:=CI.casesOn (motive:=λe j0_ j1_=>Mv.shp e=true) h.ci (λj0_ j1_ j2_ j3_ j4_ j5_ j6_=>rfl) (λj0_=>rfl) (λj0_=>rfl) λj0_ j1_ h=>h
theorem CE.sx{k:Expr}{z:Ex}(ce:CE U k z) :DX k=true->Sx z:=CI.casesOn (motive:=λk z j0_=>DX k=true->Sx z) ce.ci (λj0_ j1_ j2_ j3_ j4_ j5_ j6_ q=>Bool.noConfusion q) (λ{_ _ _ d} _ _=>.lit d) (λh j0_=>h) λj0_ h j1_ q=>Bool.noConfusion<|h.symm.trans q
theorem J9{e:Expr}(env:Env)(rest:Sn)(op:CmpOp)(v o' i':Value)(o i:Expr)(p:Pos)(l:Nat)(t:Option Expr)(es:Sn)(k:Nat)(h:shp e=true) :Rd e env rest op v o' i' o i p l t es k:=by cases e <;> first | exact .mk rfl rfl rfl rfl rfl (.inr rfl) (.inr rfl) | exact .mk rfl rfl rfl rfl rfl (.inl rfl) (.inr rfl) | exact .mk rfl rfl rfl rfl rfl (.inr rfl) (.inl rfl) | exact tf h
theorem CE.epl{e:Expr}{x:Ex}(env:Env)(rest:Sn)(op:CmpOp)(v o' i':Value)(o i:Expr)(p:Pos)(l:Nat)(t:Option Expr)(es:Sn)(k:Nat)(h:CE U e x) :Rd e env rest op v o' i' o i p l t es k:=J9 env rest op v o' i' o i p l t es k h.shp
theorem CE.star{e:Expr}{x:Ex}(h:CE U e x)(env:Env)(rest:Sn) :starEach (e::rest) env=(false,eval e env)::starEach rest env:=by cases CE.epl env rest .Eq .none .none .none e e e.pos 0 none [] 0 h;assumption
theorem CE.noSet{e:Expr}{x:Ex}(h:CE U e x)(op:CmpOp) :behindInMarks op e=false:=by cases CE.epl default [] op .none .none .none e e e.pos 0 none [] 0 h;assumption
theorem CE.noFold{e:Expr}{x:Ex}(h:CE U e x)(env:Env)(v:Value) :foldedSetIterable e env v=pure v:=by cases CE.epl env [] .Eq v .none .none e e e.pos 0 none [] 0 h;assumption
theorem CE.isPlain{e:Expr}{x:Ex}(h:CE U e x)(o i:Value) :subscripted e false o i=operate [o,i] (getItem o i):=by cases CE.epl default [] .Eq .none o i e e e.pos 0 none [] 0 h;assumption
theorem qE{e:Expr}{z:Ex}{p:Pos}{l:Nat}(ce:CE U e z) :swapsWith e (some<|.Subscript o i p) l env=pure false:=by cases CE.epl env [] .Eq .none .none .none o i p l none [] 0 ce;assumption
theorem iy{e:Expr}{z:Ex}{t:Option Expr}{l:Nat}(ce:CE U e z)(h:iI e=true) :swapsWith e t l env=pure false:=by cases CE.epl env [] .Eq .none .none .none e e e.pos l t [] 0 ce with
 | mk _ _ _ _ _ a _=>exact a.elim (λq=>by have h:=q▸h;exact tf h) id
theorem vy{k:Nat}{p:Pos}{e:Ex}(ce:CE U value e)(h:xP value=true) :swappedStores [.Tuple es k p] value env=pure none:=by cases CE.epl env [] .Eq .none .none .none value value p 0 none es k ce with
 | mk _ _ _ _ _ _ a=>exact a.elim (λq=>by have h:=q▸h;exact tf h) id
theorem IT.noFold{e:Expr}(h:IT U e it src)(env:Env)(v:Value) :foldedSetIterable e env v=pure v:=(CQ.ci h).elim (λ⟨_,h⟩=>CE.noFold h env v) λq=>q env v
theorem dD{k:α->Fm->dc β}(h:bI m k=some o) :(∃e Y,m=some (.error e,Y)/\o=(.error e,Y))\/ ∃a Y,m=some (.ok a,Y)/\k a Y=some o:=by
 rcases m with _ | ⟨_ | a,Y⟩
 .exact bz h
 .exact .inl ⟨_,_,rfl,(nt h).symm⟩
 .exact .inr ⟨_,_,rfl,h⟩
inductive Pw{α:Type}(Y:Fm)(m:Option α)(o:Se α×Fm) :Prop
 | mk (a:α) :m=some a->o=(.ok a,Y)->Pw Y m o
theorem r5(h:Bt Y m=some o) :Pw Y m o:=by
 rcases m with _ | ⟨_ | _ | _⟩
 .exact bz h
 .exact⟨_,rfl,(bO h).symm⟩
 .exact⟨_,rfl,(bO h).symm⟩
 .exact bz h
end Mv
end
section
namespace Mv
open PySem PyProof.Rows
variable [Hp]
noncomputable def fl{α:Type} :List (List α)->List α
 | []=>[]
 | [x]=>x
 | x::y::r=>x++fl (y::r)
theorem Jd(bs:List (List α)) :fl bs=bs.flatten:=by induction bs with
 | nil=>rfl
 | cons x bs ih=>cases bs with
  | nil=>exact(aI x).symm
  | cons y r=>exact congrArg (x ++ ·) ih
theorem bp(n:Nat)(is:Sg)(h:is.Perm (List.range n))(bs:List (List α))(hn:bs.length=n) :(fl bs).Perm (fl<|is.map λi=>bs.getD i []):=by
 subst hn;rw[Jd,Jd];have e:(List.range bs.length).map (λi=>bs.getD i [])=bs:=List.ext_getElem (by rw[ai,aO]) λi h1 h2=>by rw[List.getElem_map,List.getElem_range,bg,aw h2];rfl
 have:=(h.map λi=>bs.getD i []).symm;rw[e]at this;exact this.flatten
structure At where
 own:Ss
 Y:Ss
 ok:(Ss)->Heap->Prop
 st:∀{Z Z':Ss}{h h':Heap},(∀a,Z a->Z' a)->(∀a o,h.get? a=some o->Z a\/own a->h'.get? a=some o\/(Y a/\ ∃k,h'.get? a=some {o with slots:=k}))->ok Z h->ok Z' h'
 lv:∀{Z:Ss}{h:Heap}{a:Addr},ok Z h->own a-> ∃o,h.get? a=some o
 fn:∀{Z:Ss}{h:Heap}{a:Addr},ok Z h->Y a->own a/\ ∃o,h.get? a=some o/\ ∀O,o.data≠ .fields O
noncomputable def Dj(p q:At) :Prop:= ∀a,p.own a->q.own a->False
noncomputable def IG(P:List At)(a:Addr) :Prop:= ∃p∈P,p.own a
noncomputable def Sh(s:Shared) :Prop:= ∃h tk,s={Hp.s0 with heap:=h,toks:=tk}
structure bD(Z:Ss)(s:Shared)(W:List At) :Prop where
 sh:Sh s
 base:∀a o,B.get? a=some o->s.heap.get? a=some o
 zb:∀a o,B.get? a=some o->Z a
 zl:∀a,Z a-> ∃o,s.heap.get? a=some o
 ok:∀p∈W,p.ok Z s.heap
 pw:W.Pairwise Dj
 nz:∀p∈W, ∀a,p.own a-> ¬Z a
noncomputable def gh(s:Shared)(W:List At) :Prop:= ∃Z,bD Z s W
section
variable {Z Z':Ss}{s:Shared}{h':Heap}{tk:Nat}{W K P P' D':List At}{p q:At}
theorem Sh.to(x:Sh s) :Sh {s with heap:=h',toks:=tk}:=kL x λj0_ j1_ e=>by subst e;exact⟨_,_,rfl⟩
theorem Dj.symm(h:Dj p q) :Dj q p:=λa x y=>h a y x
theorem bD.dj(x:bD Z s (P++K))(h1:IG P a)(hq:q∈K)(h2:q.own a) :False:=aR h1 λp u=>(List.pairwise_append.mp x.pw).2.2 p u.1 q hq a u.2 h2
theorem bD.live(x:bD Z s W)(hp:p∈W)(h:p.own a) :∃o,s.heap.get? a=some o:=p.lv (x.ok p hp) h
theorem bD.fresh(x:bD Z s W)(hp:p∈W)(h:p.own a)(e:s.heap.get? a=none){c:Prop} :c:=aR (x.live hp h) λo q=>by rw[e]at q;exact bz q
structure Rf(Z Z':Ss)(h h':Heap)(P P':List At) :Prop where
 kp:∀a o,h.get? a=some o-> ¬IG P a->h'.get? a=some o
 zz:∀a,Z a->Z' a
 zn:∀a,Z' a->Z a\/(IG P a\/h.get? a=none)/\ ∃o,h'.get? a=some o
 ok:∀p∈P',p.ok Z' h'
 pw:P'.Pairwise Dj
 ow:∀p∈P', ∀a,p.own a->(IG P a\/h.get? a=none)/\ ¬Z' a
theorem bD.chg(x:bD Z s (P++K))(c:Rf Z Z' s.heap h' P P') :bD Z' {s with heap:=h',toks:=tk} (P'++K):=by
 have nP:∀{a},Z a-> ¬IG P a:=λz w=>aR w λp u=>x.nz p (aC _ u.1) _ u.2 z;have kz:∀a o,Z a->s.heap.get? a=some o->h'.get? a=some o:=λa o z e=>c.kp a o e<|nP z;have dk:∀{p:At}{a},p∈K->p.own a->IG P a\/s.heap.get? a=none->False:=λhp w u=>u.elim (λu=>x.dj u hp w) λe=>x.fresh (aE _ hp) w e;refine⟨x.sh.to,λa o e=>kz a o (x.zb a o e)<|x.base a o e,λa o e=>c.zz a<|x.zb a o e,λa z=>?_,λp hp=>?_,?_,λp hp a w z=>?_⟩
 .exact(c.zn a z).elim (λz=>aR (x.zl a z) λo e=>⟨o,kz a o z e⟩) λu=>u.2
 .refine(cS.mp hp).elim (c.ok p) λhp=>p.st c.zz (λa o e u=>.inl<|c.kp a o e ?_) (x.ok p<|aE _ hp)
  exact u.elim nP λw v=>x.dj v hp w
 .exact List.pairwise_append.mpr ⟨c.pw,(List.pairwise_append.mp x.pw).2.1,λp hp q hq a u w=>dk hq w (c.ow p hp a u).1⟩
 .exact(cS.mp hp).elim (λhp=>(c.ow p hp a w).2 z) λhp=>(c.zn a z).elim (x.nz p (aE _ hp) a w) λu=>dk hp w u.1
theorem bD.perm(x:bD Z s W)(h:W.Perm K) :bD Z s K:=⟨x.sh,x.base,x.zb,x.zl,λp hp=>x.ok p<|h.mem_iff.mpr hp,x.pw.perm h Dj.symm,λp hp=>x.nz p<|h.mem_iff.mpr hp⟩
theorem bD.sub(x:bD Z s W)(h:K.Sublist W) :bD Z s K:=⟨x.sh,x.base,x.zb,x.zl,λp hp=>x.ok p<|h.subset hp,x.pw.sublist h,λp hp=>x.nz p<|h.subset hp⟩
theorem gh.perm(x:gh s W)(h:W.Perm K) :gh s K:=aR x λZ x=>⟨Z,x.perm h⟩
theorem gh.sub(x:gh s W)(h:K.Sublist W) :gh s K:=aR x λZ x=>⟨Z,x.sub h⟩
theorem gh.drop(x:gh s (P++K)) :gh s K:=x.sub<|b8 _ _
theorem IG.no{c:Prop}(h:IG [] a) :c:=aR h λj0_ u=>nomatch u.1
theorem Rf.grow(k:∀a o,s.heap.get? a=some o->h'.get? a=some o) :Rf Z Z s.heap h' [] []:=⟨λa o e j0_=>k a o e,λj0_ z=>z,λj0_ z=>.inl z,(λj0_ h=>nomatch h),.nil,λj0_ h=>nomatch h⟩
theorem bD.grow(x:bD Z s K)(k:∀a o,s.heap.get? a=some o->h'.get? a=some o) :bD Z {s with heap:=h',toks:=tk} K:=bD.chg (P:=[]) (P':=[]) x<|.grow k
theorem gh.grow(x:gh s K)(k:∀a o,s.heap.get? a=some o->h'.get? a=some o) :gh {s with heap:=h',toks:=tk} K:=aR x λZ x=>⟨Z,x.grow k⟩
theorem gh.toks(x:gh s K) :gh {s with toks:=tk} K:=x.grow λj0_ j1_ e=>e
end
noncomputable def eA:At:=⟨λj0_=>False,λj0_=>False,λj0_ j1_=>True,λj0_ j1_ j2_=>trivial,λj0_ h=>h.elim,λj0_ h=>h.elim⟩
def zA(ov:So)(d:D) :At where
 own:=λj0_=>False
 Y:=λj0_=>False
 ok:=λZ h=> ∃v,ov=some v/\dW h Z v d
 st:=λzz k r=>aR r λv r=>⟨v,r.1,r.2.mono (λa o z e=>(k a o e<|.inl z).elim id λf=>f.1.elim) zz⟩
 lv:=λj0_ h=>h.elim
 fn:=λj0_ h=>h.elim
def oA(ov:So)(d:D) :At where
 own:=λa=>ov=some (.ref a)
 Y:=λj0_=>False
 ok:=λZ h=> ∃a,ov=some (.ref a)/\eR h Z a d
 st:=λzz k r=>aR r λa r=>⟨a,r.1,r.2.mono (λa o z e=>(k a o e<|.inl z).elim id λf=>f.1.elim) zz λo e=>(k a o e<|.inr r.1).elim id λf=>f.1.elim⟩
 lv:=λr w=>aR r λa r=>by rw[r.1]at w;injection w with w;injection w with w;exact w▸r.2.live
 fn:=λj0_ h=>h.elim
def kA(ov:So)(V:Sj) :At where
 own:=λa=>ov=some (.ref a)
 Y:=λj0_=>False
 ok:=λZ h=> ∃a,ov=some (.ref a)/\TabAt h Z a V
 st:=λzz k r=>aR r λa r=>⟨a,r.1,r.2.mono (λa o z e=>(k a o e<|.inl z).elim id λf=>f.1.elim) zz λo e=>(k a o e<|.inr r.1).elim id λf=>f.1.elim⟩
 lv:=λr w=>aR r λa r=>by rw[r.1]at w;injection w with w;injection w with w;exact w▸r.2.live
 fn:=λj0_ h=>h.elim
def cA(ov:So)(nm:Str) :At where
 own:=λj0_=>False
 Y:=λj0_=>False
 ok:=λZ h=> ∃a o C,ov=some (.ref a)/\(Z a/\h.get? a=some o)/\(o.cls = .ref C/\o.dict=none/\ ∃O,o.data = .fields O)/\ ∃m,B.Ns mainGlobals m/\m nm=some (.ref C)
 st:=λzz k x=>m5 x λa o C x=>⟨a,o,C,x.1,⟨zz _ x.2.1.1,(k a o x.2.1.2<|.inl x.2.1.1).elim id λf=>f.1.elim⟩,x.2.2⟩
 lv:=λj0_ h=>h.elim
 fn:=λj0_ h=>h.elim
def vA(ov:So) :Slot->At
 | .no=>eA
 | .fz d=>zA ov d
 | .own d=>oA ov d
 | .tab V=>kA ov V
 | .exc e=>cA ov e
def tA:Rv->Value->List At
 | .fz d,v=>[zA (some v) d]
 | .own d,v=>[oA (some v) d]
 | .pl _,_=>[]
section
variable {Z Z':Ss}{s s':Shared}{h':Heap}{tk:Nat}{W K:List At}{v:Value}{a:Addr}{d e:D}
theorem y3{p:At}{P:At->Prop}(h:P p) :∀q∈ [p],P q:=λq hq=>by rw[aJ.mp hq];exact h
theorem Bm{p:At} :IG [p] a↔p.own a:=⟨λh=>aR h λq u=>aJ.mp u.1▸u.2,λh=>⟨p,List.mem_singleton_self p,h⟩⟩
theorem iS{a b:Addr}(h:some (Value.ref a)=some (.ref b)) :a=b:=Value.ref.inj<|bO h
theorem bD.one{p q:At}(x:bD Z s (p::K))(kp:∀a o,s.heap.get? a=some o-> ¬p.own a->h'.get? a=some o)(zz:∀a,Z a->Z' a)(zn:∀a,Z' a->Z a\/(p.own a\/s.heap.get? a=none)/\ ∃o,h'.get? a=some o)
  (ok:q.ok Z' h') (ow:∀a,q.own a->(p.own a\/s.heap.get? a=none)/\ ¬Z' a) :bD Z' {s with heap:=h',toks:=tk} (q::K):=
 bD.chg (P:=[p]) (P':=[q]) x ⟨λa o e n=>kp a o e λw=>n<|Bm.mpr w,zz,λa z=>(zn a z).imp id λu=>⟨u.1.imp Bm.mpr id,u.2⟩,y3 ok,.cons (λj0_ h=>nomatch h) .nil,y3 λa w=>⟨(ow a w).1.imp Bm.mpr id,(ow a w).2⟩⟩
theorem bD.nw{q:At}(x:bD Z s K)(kp:∀a o,s.heap.get? a=some o->h'.get? a=some o)(zz:∀a,Z a->Z' a)(zn:∀a,Z' a->Z a\/s.heap.get? a=none/\ ∃o,h'.get? a=some o)
  (ok:q.ok Z' h') (ow:∀a,q.own a->s.heap.get? a=none/\ ¬Z' a) :bD Z' {s with heap:=h',toks:=tk} (q::K):=
 bD.chg (P:=[]) (P':=[q]) x ⟨λa o e j0_=>kp a o e,zz,λa z=>(zn a z).imp id λu=>⟨.inr u.1,u.2⟩,y3 ok,.cons (λj0_ h=>nomatch h) .nil,y3 λa w=>⟨.inr (ow a w).1,(ow a w).2⟩⟩
theorem bD.val(x:bD Z s K)(r:dW s.heap Z v d) :bD Z s (zA (some v) d::K):=bD.nw (tk:=s.toks) x (λj0_ j1_ e=>e) (λj0_ z=>z) (λj0_ z=>.inl z) ⟨v,rfl,r⟩ λj0_ h=>h.elim
theorem bD.dupz(x:bD Z s K)(h:zA (some v) d∈K) :bD Z s (zA (some v) d::K):=x.val (aR (x.ok _ h) λu r=>by rw[bO r.1];exact r.2)
theorem Op.sat(x:bD Z s K)(p:Op Z s r v s') :gh s' (tA r v++K):=by obtain⟨h',tk,rfl,k,q⟩:=p;cases q with
 | old R=>exact⟨Z,(x.grow k).val R⟩
 | @new a o d e e' R=>exact⟨λb=>Z b\/b=a,x.nw k (λj0_ z=>.inl z) (λb z=>z.imp id λq=>by subst q;exact⟨e,o,e'⟩) ⟨_,rfl,R⟩ λj0_ h=>h.elim⟩
 | @own a d e w=>refine⟨Z,x.nw k (λj0_ z=>z) (λj0_ z=>.inl z) ⟨a,rfl,w⟩ λb h=>?_⟩;have:=iS h;subst this;exact⟨e,λz=>aR (x.zl _ z) λo q=>by rw[e]at q;exact bz q⟩
theorem gh.frz(x:gh s (oA (some v) d::K)) :gh s (zA (some v) d::K):=aR x λZ x=>by obtain⟨a,e,w⟩:=x.ok _ aa;obtain rfl:=bO e;exact⟨λb=>Z b\/b=a,bD.one (tk:=s.toks) x (λj0_ j1_ e j2_=>e) (λj0_ z=>.inl z) (λb z=>z.imp id λq=>by subst q;exact⟨.inl rfl,w.live⟩) ⟨_,rfl,w.rep (λj0_ z=>.inl z)<|.inr rfl⟩ λj0_ h=>h.elim⟩
theorem bD.own(x:bD Z s (oA (some<|.ref a) d::K))(kp:∀b o,b≠a->s.heap.get? b=some o->h'.get? b=some o)(w:eR h' Z a e) :gh {s with heap:=h',toks:=tk} (oA (some<|.ref a) e::K):=
 ⟨Z,x.one (λb o q n=>kp b o (λz=>n (by rw[z];rfl)) q) (λj0_ z=>z) (λj0_ z=>.inl z) ⟨a,rfl,w⟩ λb h=>⟨.inl h,x.nz _ aa b h⟩⟩
theorem dW.dz(x:bD Z s W)(h:zA (some v) d∈W) :dW s.heap Z v d:=aR (x.ok _ h) λu r=>by rw[bO r.1];exact r.2
theorem eR.dz(x:bD Z s W)(h:oA (some v) d∈W) :∃a,v = .ref a/\eR s.heap Z a d:=aR (x.ok _ h) λa r=>⟨a,bO r.1,r.2⟩
end
set_option genCtorIdx true in
inductive Loc where | dict(a:Addr)(x:Str) | cell(a:Addr)
noncomputable def Loc.addr:Loc->Addr | .dict a _=>a | .cell a=>a
noncomputable def FD(h:Heap) :Loc->Value->Prop
 | .dict a x,v=> ∃m,h.Ns a m/\m x=some v
 | .cell a,v=>h.IsCell a<|some v
noncomputable def FS(h:Heap) :Loc->Prop
 | .dict a _=> ∃m,h.Ns a m
 | .cell a=> ∃v,h.IsCell a v
noncomputable abbrev bV:=Nat->So
noncomputable abbrev Lay:=Nat->Option Loc
noncomputable def upd(O:bV)(i:Nat)(v:Value) :bV:=λj=>if j=i then some v else O j
theorem lS{O:bV}{v:Value} :upd O i v i=some v:=if_pos rfl
theorem gP{O:bV}{v:Value}(h:j≠i) :upd O i v j=O j:=if_neg h
theorem Ee{h h':Heap}{a:Addr}{m:Str->So}(hn:h.Ns a m)(k:∀o,h.get? a=some o-> ∃sl,h'.get? a=some {o with slots:=sl}) :h'.Ns a m:=m5 hn λo es ep hn=>aR (k o hn.1) λsl e=>⟨_,es,ep,e,hn.2⟩
section
variable {h h':Heap}{l:Loc}{v:Value}{L:Addr}
noncomputable def MT(L:Addr)(h h':Heap)(a:Addr) :Prop:= ∀o,h.get? a=some o->h'.get? a=some o\/(a=L/\ ∃k,h'.get? a=some {o with slots:=k})
theorem Cd{a:Addr}{m:Str->So}(k:MT L h h' a)(hn:h.Ns a m) :h'.Ns a m:=Ee hn λo e=>(k o e).elim (λe=>⟨o.slots,e⟩) λq=>q.2
theorem xY{x:So}(k:MT L h h' a)(c:h.IsCell a x)(nl:a≠L) :h'.IsCell a x:=aR c λo c=>⟨o,(k o c.1).elim id λq=>absurd q.1 nl,c.2⟩
theorem FD.keeps(k:MT L h h' l.addr)(nl:∀a,l = .cell a->a≠L)(x:FD h l v) :FD h' l v:=by cases l with
 | dict a z=>exact aR x λm x=>⟨m,Cd k x.1,x.2⟩
 | cell a=>exact xY k x<|nl a rfl
theorem FS.keeps(k:MT L h h' l.addr)(nl:∀a,l = .cell a->a≠L)(x:FS h l) :FS h' l:=by cases l with
 | dict a z=>exact aR x λm x=>⟨m,Cd k x⟩
 | cell a=>exact aR x λv x=>⟨v,xY k x<|nl a rfl⟩
theorem FS.live(x:FS h l) :∃o,h.get? l.addr=some o:=by cases l with
 | dict a z=>exact Hy x λm o j0_ j1_ x=>⟨o,x.1⟩
 | cell a=>exact kL x λv o x=>⟨o,x.1⟩
end
def bA(L:Addr)(ls:Lay)(O:bV) :At where
 own:=λa=>a=L\/ ∃i l,ls i=some l/\l.addr=a
 Y:=λa=>a=L
 ok:=λj0_ h=>(∃m,h.Ns L m)/\ ∀i l,ls i=some l->(∀a,l = .cell a->a≠L)/\FS h l/\ ∀v,O i=some v->FD h l v
 st:=λj0_ k x=>⟨aR x.1 λm x=>⟨m,Cd (λo e=>k _ o e<|.inr<|.inl rfl) x⟩,λi l hl=>have u:=x.2 i l hl;have k':MT _ _ _ l.addr:=λo e=>k _ o e<|.inr<|.inr ⟨i,l,hl,rfl⟩;⟨u.1,u.2.1.keeps k' u.1,λv e=>(u.2.2 v e).keeps k' u.1⟩⟩
 lv:=λx w=>w.elim (λe=>Hy x.1 λm o j0_ j1_ x=>⟨o,e▸x.1⟩) λw=>kL w λi l u=>u.2▸(x.2 i l u.1).2.1.live
 fn:=λx e=>⟨.inl e,Hy x.1 λm o j0_ j1_ x=>⟨o,e▸x.1,λO q=>by have:=x.2.1;rw[q]at this;exact nomatch this⟩⟩
noncomputable abbrev lR:Type:=Option<|Addr×Obj×Addr
noncomputable def R8(k:Nat)(o:Obj) :Prop:= ∃c C,tb.cr k=some c/\mg c.name=some (.ref C)/\o.cls = .ref C
def nA(x:Addr)(o:Obj)(dx:Addr)(SM:List So) :At where
 own:=λa=>a=dx
 Y:=λj0_=>False
 ok:=λZ h=>(Z x/\h.get? x=some o)/\ ∃m,(h.Ns1 dx m/\Within m tb.an)/\ ∀(k:Nat) a v,tb.an[k]? = some a->SM[k]? = some (some v)->m a=some v
 st:=λzz k x=>⟨⟨zz _ x.1.1,(k _ _ x.1.2<|.inl x.1.1).elim id λf=>f.1.elim⟩,aR x.2 λm x=>⟨m,⟨m5 x.1.1 λo es ep u=>⟨o,es,ep,(k _ _ u.1<|.inr rfl).elim id λf=>f.1.elim,u.2⟩,x.1.2⟩,x.2⟩⟩
 lv:=λx w=>aR x.2 λm x=>m5 x.1.1 λo j0_ j1_ u=>⟨o,w▸u.1⟩
 fn:=λj0_ h=>h.elim
def iA(J:lR)(SM:List So) :List At:=match J with
 | none=>[]
 | some (x,o,dx)=>[nA x o dx SM]
inductive lm(h:Heap)(P:Ss)(a:Addr)(nm:Str) :Prop
 | mk (pa:P a) (oe:Obj) (O:Array Value) (C:Addr) (m:Str->So) :h.get? a=some oe->(oe.cls = .ref C/\oe.dict=none)->oe.data = .fields O->B.Ns mainGlobals m->m nm=some (.ref C)->
  (O[1]? = some .none\/ ∃T oT ts,O[1]? = some (.ref T)/\T≠a/\h.get? T=some oT/\oT.data = .fields ts/\3<ts.size/\P T)->lm h P a nm
theorem lm.mono{P P':Ss}(x:lm h P a nm)(k:∀b o,P b->h.get? b=some o->P' b/\h'.get? b=some o) :lm h' P' a nm:=by obtain⟨p,oe,O,C,m,he,hc,hd,hn,hm,ht⟩:=x;exact⟨(k a _ p he).1,oe,O,C,m,(k a _ p he).2,hc,hd,hn,hm,ht.imp id λq=>m5 q λT oT ts q=>⟨T,oT,ts,q.1,q.2.1,(k T _ q.2.2.2.2.2 q.2.2.1).2,q.2.2.2.1,q.2.2.2.2.1,(k T _ q.2.2.2.2.2 q.2.2.1).1⟩⟩
def xA(P:Ss)(a:Addr)(nm:Str) :At where
 own:=P
 Y:=λj0_=>False
 ok:=λj0_ h=>lm h P a nm/\ ∀b,P b-> ∃o,h.get? b=some o
 st:=λj0_ k x=>have k':∀b o,P b->_->_:=λb o p e=>(k b o e<|.inr p).elim id λf=>f.1.elim;⟨x.1.mono λb o p e=>⟨p,k' b o p e⟩,λb p=>aR (x.2 b p) λo e=>⟨o,k' b o p e⟩⟩
 lv:=λx w=>x.2 _ w
 fn:=λj0_ h=>h.elim
def Sk(O:bV) :Nat->Fm->List At
 | _,[]=>[]
 | k,sl::Y=>vA (O k) sl::Sk O (k+1) Y
theorem pM{O:bV}{sl:Slot} :∀{Y:Fm}{i k:Nat},Y[i]? = some sl-> ∃l r,Sk O k Y=l++vA (O<|k+i) sl::r/\ ∀vs' sl',(∀j,j≠k+i->vs' j=O j)->Sk vs' k (Y.set i sl')=l++vA (vs'<|k+i) sl'::r:=by intro Y;induction Y with
 | nil=>exact λh=>bz h
 | cons x Y ih=>intro i k h;cases i with
  | zero=>
   obtain rfl:=bO h;refine⟨[],Sk O (k+1) Y,rfl,λvs' sl' e=>?_⟩
   suffices H:∀Y m,k<m->Sk vs' m Y=Sk O m Y from congrArg (vA (vs' k) sl' :: ·)<|H Y (k+1)<|dZ k
   intro Y;induction Y with
   | nil=>exact λj0_ j1_=>rfl
   | cons y Y ih=>intro m hm;show _::_=_::_;rw[e m<|iq hm,ih (m+1)<|ki hm]
  | succ i=>
   obtain⟨l,r,h1,h2⟩:=ih (i:=i) (k:=k+1) h;rw[d4]at h1 h2;refine⟨vA (O k) x::l,r,congrArg (vA (O k) x :: ·) h1,λvs' sl' e=>?_⟩;show vA (vs' k) x::Sk vs' (k+1) (Y.set i sl')=_
   rw[h2 vs' sl' e,e k<|bW<|eF<|aq k i];rfl
theorem My{O:bV}{sl:Slot}(h:Y[i]? = some sl) :vA (O i) sl∈Sk O 0 Y:=by obtain⟨l,r,e,_⟩:=pM (O:=O) (k:=0) h;rw[e,aX];exact aE _ aa
noncomputable def tC(F:Ss)(A:Around) :Prop:= ∃l,A.frames=some l/\ ∀e∈l,e.scope.kind≠ .module/\ ∃L,e.frame=some L/\F L
noncomputable def mC:Sd:=["len","isinstance","abs","int","str","tuple","list","bool","range","zip","dict","enumerate","reversed","sum"]
noncomputable def vj(B:Heap)(C:Addr)(SA:Value)(b:Bool) :Prop:= ∀(prog:Program)(w:World)(A:Around)(E:Sr)(s:Shared)(a:Addr)(o:Obj),(∀a o,B.get? a=some o->s.heap.get? a=some o)->s.heap.get? a=some o->(o.cls = .ref C/\o.dict=none/\ ∃O,o.data = .fields O)->
 ∀Q:Bool->Shared->Prop,Q b s->wpAny (model prog w) A (excMatches (.ref a) SA) Q E s
noncomputable def lM(B:Heap)(C:Addr)(SA:Value)(b:Bool) :Prop:= ∀(prog:Program)(w:World)(A:Around)(E:Sr)(s:Shared)(a:Addr)(o:Obj),(∀a o,B.get? a=some o->s.heap.get? a=some o)->s.heap.get? a=some o->(o.cls = .ref C/\o.dict=none/\ ∃O,o.data = .fields O)->
 ∀Q:Sr,(∀tk,Q (.bool b) {s with toks:=tk})->wpAny (model prog w) A (call (.builtin "isinstance") [.ref a,SA]) Q E s
noncomputable def lL(B:Heap)(C:Addr)(Vs:Si)(b:Bool) :Prop:= ∀(prog:Program)(w:World)(A:Around)(E:Sr)(s:Shared)(a tp:Addr)(o:Obj),(∀a o,B.get? a=some o->s.heap.get? a=some o)->s.heap.get? a=some o->(o.cls = .ref C/\o.dict=none/\ ∃O,o.data = .fields O)->
 s.heap.get? tp = some {cls:=.type "tuple",data:=.seq Vs.toArray}-> ∀Q:Sr,(∀tk,Q (.bool b) {s with toks:=tk})->wpAny (model prog w) A (call (.builtin "isinstance") [.ref a,.ref tp]) Q E s
noncomputable def ju(mg mb:Str->So) :Sd->Si->Prop
 | [],[]=>True
 | x::S,v::O=>(mg x=some v\/(mg x=none/\mb x=some v))/\ju mg mb S O
 | _,_=>False
structure Gd(glob:Sb) :Prop where
 g:B.Ns mainGlobals mg
 b:B.Ns builtinsNs mb
 nl:B.NoLimit
 bt:∀x:Str,x≠"__name__"->mb x = bootBuiltins x
 fn:∀(f:Nat)(d:DefRec),f<tb.m0->tb.fn[f]? = some d-> ∃a o pm code doc,mg d.name=some (.ref a)/\B.get? a=some o/\o.data = .func (Calls.docDef d.name d.params d.body d.scope pm code doc)/\B.CodeRec code d.name
 pl:∀k c,tb.cr k = some c-> ∃C N mN,mg c.name = some (.ref C)/\PlainAt B c C N mN/\(∀a∈tb.an,typeLookup (.type "object") a = pure none)/\
  ∀(f:Nat) (d:DefRec),tb.m0<=f/\kf f = k->tb.fn[f]? = some d->⟨d.name,d.params,d.body,d.scope⟩∈c.meths/\d.name∉tb.an/\ ∃y,typeLookup (.type "object") d.name = pure y
 gl:∀(k:Nat)(x:Str)(d:D),tb.gl[k]? = some x->glob[k]? = some d-> ∃v,mg x=some v/\ ∀(h:Heap)(Z:Ss),(∀a o,B.get? a=some o->h.get? a=some o)->(∀a o,B.get? a=some o->Z a)->dW h Z v d
 bi:∀x∈mC,mg x=none
 cl:∀k∈tb.cl, ∃C Bb newId initId bm,OwnClsQ k C bm newId mg B/\ExcBaseFacts Bb newId initId bm
 ask:∀c∈tb.hc, ∃SA,mg c=some SA/\ ∀k∈tb.cl, ∀C,mg k=some (.ref C)->vj B C SA ((tb.hb c).contains k)
 askI:∀c yes no,tb.sub.lookup c=some (yes,no)-> ∃SA,(mg c=some SA\/(mg c=none/\mb c=some SA))/\ ∀k C b,mg k=some (.ref C)->(b=true/\k∈yes)\/(b=false/\k∈no)->lM B C SA b
 askT:∀cs yes no,tb.sbt.lookup cs=some (yes,no)-> ∃Vs,ju mg mb cs Vs/\ ∀k C b,mg k=some (.ref C)->(b=true/\k∈yes)\/(b=false/\k∈no)->lL B C Vs b
def F6:lR->Nat
 | none=>0
 | some _=>tb.an.length
noncomputable def nG:lR->Si
 | none=>[]
 | some (x,_,_)=>[.ref x]
def tG(f:Nat) :Sg:=if f<tb.m0 then [] else(tb.rb[f - tb.m0]?).getD []
structure Ei(k:Nat)(o:Obj)(dx x:Addr) :Prop where
 cls:R8 k o
 nc:∀c,o.data≠ .cls c
 dic:o.dict=some dx
 ne:dx≠x
noncomputable def Eh(k:Nat)(J:lR) :Prop:= ∀x o dx,J=some (x,o,dx)->Ei k o dx x
noncomputable def qA(f:Nat)(d:DefRec)(J:lR)(fa:Addr) :Prop:=(J=none↔f<tb.m0)/\Eh (kf f) J/\ ∃o qual pm code doc,B.get? fa=some o/\o.data = .func (methDef d.name qual d.params d.body d.scope pm code doc)/\B.CodeRec code qual
abbrev jJ:List So->List Slot->List At:=List.zipWith vA
noncomputable def gn:List Slot->Si->List So
 | sl::ss,v::ws=>if sl.lent=true then some v::gn ss ws else gn ss ws
 | _,_=>[]
inductive IF(res:Se Rv)(r:Result)(s:Shared)(W:List At) :Prop
 | ok (rv:Rv) (v:Value) :res = .ok rv->r = .ok (.ret v)->gh s (tA rv v++W)->IF res r s W
 | err (nm:Str) (a:Addr) (P:Ss) :res = .error nm->r = .error (.ref a)->gh s (xA P a nm::W)->IF res r s W
inductive mJ(J:lR)(rb:Sg)(K:List At)(SM:List So)(ws:Si)(args:List Slot)(res:Se Rv)(outs:List Slot)(r:Result)(s':Shared) :Prop
 | mk (avs':List So) :avs'.length=SM.length->(∀k,k∉rb->avs'[k]? = SM[k]?)->outs.length=SM.length+(gn (args.drop SM.length) ws).length->IF res r s' (iA J avs'++(jJ (avs'++gn (args.drop SM.length) ws) outs++K))->mJ J rb K SM ws args res outs r s'
noncomputable def i8(n:Nat)(call:Nat->List Slot->Option (Se Rv×List Slot)) :Prop:=
 ∀f args res outs,call f args=some (res,outs)-> ∀(d:DefRec),tb.fn[f]? = some d-> ∀(J:lR) fa,qA f d J fa-> ∀(A:Around)(K:List At)(SM:List So)(ws:Si)(s:Shared),
  A.depth+2*n<=999->A.units+10*n<=4000->A.handled=none->tC (λa=> ∃p∈K,p.Y a) A->SM.length=F6 J->args.length=SM.length+ws.length->gh s (iA J SM++(jJ (SM++ws.map some) args++K))->
  codeAny (model prog w) A (.call (.ref fa) ⟨nG J++ws,[]⟩) (mJ J (tG f) K SM ws args res outs) s
noncomputable def i7(word:Nat->Str->Option D) :Prop:= ∀f e d,word f e=some d-> ∀(dr:DefRec),tb.fn[f]? = some dr-> ∀fa,qA f dr none fa-> ∀(A:Around)(K:List At)(a:Addr)(s:Shared),
 A.depth<1000->A.units+7<=4000->tC (λa=> ∃p∈K,p.Y a) A->gh s (cA (some<|.ref a) e::K)->codeAny (model prog w) A (.call (.ref fa) ⟨[.ref a],[]⟩) (λr s'=> ∃v,r = .ok (.ret v)/\gh s' (zA (some v) d::K)) s
structure Cx where
 A:Around
 c:gR
 n:Nat
 env:Env
 U:Sc
 L:Addr
 ls:Lay
 J:lR
 si:Nat
 K:List At
 gd:Gd c.glob
 cs:i8 n c.call
 wd:i7 c.word
 dep:c.hd=false->A.depth+2*n+1<=999
 un:c.hd=false->A.units+10*n+7<=4000
 un0:A.units+4<=4000
 hh:c.hd=false->A.handled=none
 stk:tC (λa=>a=L\/ ∃p∈K,p.Y a) A
 kind:env.scope.kind = .function
 glob:env.globals=mainGlobals
 blt:env.builtins=builtinsNs
 frame:env.frame=some L
 top:∃e0 outer,A.frames=some (e0::outer)/\e0.frame=env.frame
 hi:∀i l,ls i=some l->i<U.hi
 ap:∀i j l k,ls i=some l->ls j=some k->i≠j->l.addr=k.addr-> ∃a x z,l = .dict a x/\k = .dict a z/\x≠z
 var:∀x i,U.vars.lookup x = some i->(env.kindOf x = some .local/\ls i = some (.dict env.locals x))\/((env.kindOf x = some .cell\/(env.kindOf x = some .free/\(x == ("__classdict__" :Str)) = false))/\ ∃c,env.cells.lookup x = some c/\ls i = some (.cell c))
 gl:∀x,U.names.lookup x=some .globalImplicit->env.kindOf x=some .globalImplicit
 cf:∀x,U.names.lookup x=some .cell\/U.names.lookup x=some .free->env.kindOf x=some .cell\/env.kindOf x=some .free
 ins:U.ats≠ []->J≠none/\env.kindOf U.sn=some .local/\ls si=some (.dict env.locals U.sn)
 inj:Eh U.k J
 an:J≠none->U.as.length=tb.an.length/\ ∀a i,U.ats.lookup a=some i-> ∃k:Nat,tb.an[k]? = some a/\U.as[k]? = some i
 nsi:J≠none-> ∀x i,U.vars.lookup x=some i->si≠i
 asl:∀i∈U.as,ls i=none
 asn:U.as.Nodup
 sin:J≠none->si∉U.as
abbrev Cx.W(X:Cx)(O:bV)(Y:Fm)(T:List At) :List At:=bA X.L X.ls O::(iA X.J (X.U.as.map O)++(Sk O 0 Y++(T++X.K)))
structure Fr(X:Cx)(O:bV)(Y:Fm)(T:List At)(s:Shared) :Prop where
 sat:gh s (X.W O Y T)
 slf:∀x o dx,X.J=some (x,o,dx)->O X.si=some (.ref x)
section
variable {X:Cx}{O vs':bV}{Y:Fm}{T T' P P':List At}{s s':Shared}{i:Nat}{sl:Slot}{r:Rv}{v:Value}{d:D}{Z:Ss}{p:At}
theorem g8(b:At)(I SC P R:List At) :(b::(I++(SC++(P++R)))).Perm (P++(b::(I++(SC++R)))):=bp 5 [3,0,1,2,4] (by decide) [[b],I,SC,P,R] rfl
theorem Fr.map(x:Fr X O Y (P++T) s)(k:∀R,gh s (P++R)->gh s' (P'++R)) :Fr X O Y (P'++T) s':=
 ⟨by have:=x.sat;unfold Cx.W at this |-;rw[ah]at this |-;exact(k _<|this.perm<|g8 ..).perm (g8 ..).symm,x.slf⟩
theorem Fr.push(x:Fr X O Y T s)(k:∀R,gh s R->gh s' (P'++R)) :Fr X O Y (P'++T) s':=Fr.map (P:=[]) x k
theorem Fr.drop(x:Fr X O Y (P++T) s) :Fr X O Y T s:=Fr.map (P':=[]) x λj0_=>gh.drop
theorem Fr.toks{tk:Nat}(x:Fr X O Y T s) :Fr X O Y T {s with toks:=tk}:=Fr.push (P':=[]) x λj0_=>gh.toks
theorem Fr.take(x:Fr X O Y T s)(h:Y[i]? = some sl) :Fr X O (Y.set i .no) (vA (O i) sl::T) s:=by
 obtain⟨l,r,e1,e2⟩:=pM (O:=O) (k:=0) h;have e2:=e2 O .no λj0_ j1_=>rfl;rw[aX]at e1 e2;refine⟨?_,x.slf⟩;have:=x.sat;unfold Cx.W at this |-;rw[e1]at this;rw[e2];generalize iA X.J (X.U.as.map O)=I at this |-;generalize bA X.L X.ls O=b at this |-;generalize vA (O i) sl=p at this |-;refine aR this λZ this=>⟨Z,?_⟩
 have y:bD Z s (vA (O i) .no::(b::(I++((l++p::r)++(T++X.K))))):=bD.nw (tk:=s.toks) this (λj0_ j1_ e=>e) (λj0_ z=>z) (λj0_ z=>.inl z) trivial λj0_ h=>h.elim;rw[ah]at y |-;exact y.perm<|bp 8 [1,2,3,0,5,4,6,7] (by decide) [[vA (O i) .no],[b],I,l,[p],r,T,X.K] rfl
theorem Fr.put(x:Fr X O Y (vA (O i) sl::T) s)(h:Y[i]? = some .no) :Fr X O (Y.set i sl) T s:=by obtain⟨l,r,e1,e2⟩:=pM (O:=O) (k:=0) h;have e2:=e2 O sl λj0_ j1_=>rfl;rw[aX]at e1 e2;refine⟨?_,x.slf⟩;have:=x.sat;unfold Cx.W at this |-;rw[e1]at this;rw[e2];generalize iA X.J (X.U.as.map O)=I at this |-;generalize bA X.L X.ls O=b at this |-;generalize vA (O i) sl=p at this |-;rw[ah]at this |-;exact gh.drop (P:=[vA (O i) .no])<|this.perm<|bp 8 [3,0,1,2,5,4,6,7] (by decide) [[b],I,l,[vA (O i) .no],r,[p],T,X.K] rfl
theorem Fr.set(x:Fr X O (Y.set i .no) (vA (O i) sl::T) s) :Fr X O (Y.set i sl) T s:=by
 by_cases h:i<Y.length
 .have:=x.put (by rw[List.getElem?_set_self h])
  rw[List.set_set]at this;exact this
 .rw[List.set_eq_of_length_le<|Nat.le_of_not_lt h]at x |-;exact Fr.drop (P:=[_]) x
theorem Fr.forget(x:Fr X O Y T s)(i:Nat) :Fr X O (Y.set i .no) T s:=by cases h:Y[i]? with
 | none=>rw[List.set_eq_of_length_le<|cW.mp h];exact x
 | some sl=>exact Fr.drop (P:=[_])<|x.take h
theorem Fr.clr(x:Fr X O Y T s)(l:Sg) :Fr X O (clr Y l) T s:=by induction l generalizing Y with
 | nil=>exact x
 | cons i l ih=>exact ih<|x.forget i
noncomputable def Es(O:bV) :Rv->Value->Prop
 | .pl (.var i),v=>O i=some v
 | _,_=>True
noncomputable def In(T:List At)(O:bV)(r:Rv)(v:Value) :Prop:=Es O r v/\ ∀p∈tA r v,p∈T
theorem em(h:p∈T) :p∈X.W O Y T:=ac _<|aE _<|aE _<|aC _ h
theorem uq(h:Y[i]? = some sl) :vA (O i) sl∈X.W O Y T:=ac _<|aE _<|aC _<|My h
theorem In.hd(h:Es O r v) :In (tA r v++T) O r v:=⟨h,λj0_ h=>aC _ h⟩
theorem In.tl(h:In T O r v) :In (P++T) O r v:=⟨h.1,λp hp=>aE _<|h.2 p hp⟩
theorem FI(h:IV Y (.var i)=some d) :Y[i]? = some (.fz d)\/Y[i]? = some (.own d):=by
 have h:(match Y[i]? with
  | some (.fz d)=>some d
  | some (.own d)=>some d
  | _=>none)=some d:=h
 generalize Y[i]? = o at h |-;rcases o with _ | _ | _ | _ | _ | _
 .exact bz h
 .exact bz h
 .exact .inl (congrArg (some <| Slot.fz ·)<|bO h)
 .exact .inr (congrArg (some <| Slot.own ·)<|bO h)
 .exact bz h
 .exact bz h
theorem In.dat(h:In T O r v)(x:bD Z s (X.W O Y T))(e:gV Y r=some d) :eX s.heap Z v d:=by cases r with
 | fz d'=>obtain rfl:=bO e;exact .inl<|.dz x<|em<|h.2 _ aa
 | own d'=>obtain rfl:=bO e;exact .inr<|eR.dz x<|em<|h.2 _ aa
 | pl p=>cases p with
  | var i=>have h1:O i=some v:=h.1;have m:=λ{sl:Slot} (G:Y[i]? = some sl)=>h1▸uq (X:=X) (O:=O) (T:=T) G;exact(FI e).imp (λq=>.dz x<|m (sl:=.fz d) q) λq=>eR.dz x<|m (sl:=.own d) q
inductive PV(X:Cx)(O:bV)(T:List At)(out:Se Rv×Fm)(v:Value)(s':Shared) :Prop
 | mk (r:Rv) :out.1 = .ok r->Es O r v->Fr X O out.2 (tA r v++T) s'->PV X O T out v s'
inductive PX{β:Type}(X:Cx)(O:bV)(T:List At)(out:Se β×Fm)(e:Value)(s':Shared) :Prop
 | mk (nm:Str) (a:Addr) (P:Ss) :out.1 = .error nm->e = .ref a->Fr X O out.2 (xA P a nm::T) s'->PX X O T out e s'
theorem PX.no{b:β}{e:Value}{c:Prop}(x:PX X O T ((.ok b:Se β),f) e s') :c:=by obtain⟨_,_,_,q,_⟩:=x;exact LL q
theorem PX.to{e:Value}(x:PX X O (P++T) ((.error nm:Se β),f) e s') :PX X O T ((.error nm:Se γ),f) e s':=by obtain⟨nm',a,Q,q,e1,x⟩:=x;cases q;exact⟨nm,a,Q,rfl,e1,Fr.map (P:=xA Q a nm::P) (P':=[xA Q a nm]) x λR y=>y.sub<|List.Sublist.cons_cons _<|b8 _ _⟩
noncomputable def SE(X:Cx)(m:Sem Value)(g:Fm->dc Rv) :Prop:= ∀(O:bV)(T:List At)(s:Shared)(Y:Fm)(out:Se Rv×Fm),g Y=some out->Fr X O Y T s->wpAny (model prog w) X.A m (PV X O T out) (PX X O T out) s
theorem im{k:Rv->Fm->dc β}{out:Se β×Fm}{Q:Sr}(hk:bI o k=some out)(H:∀u,o=some u->wpAny (model prog w) X.A m (PV X O (P++T) u) (PX X O (P++T) u) s)
  (K:∀r aP v bC,k r aP=some out->Es O r v->Fr X O aP (tA r v++(P++T)) bC->Q v bC) :wpAny (model prog w) X.A m Q (PX X O T out) s:=by
 rcases dD hk with⟨e,f,hm,rfl⟩ | ⟨r,f,hm,hk⟩
 .exact aK (H _ hm) (λv s' p=>by obtain⟨_,q,_⟩:=p;exact on q) λj0_ j1_ x=>x.to
 .refine aK (H _ hm) (λv s' p=>?_) λj0_ j1_ x=>x.no;obtain⟨r',q,h,x⟩:=p;obtain rfl:=ky q;exact K r f v s' hk h x
theorem n5:gh s (P++X.W O Y T)->gh s (X.W O Y<|P++T):=λx=>by unfold Cx.W at x |-;rw[ah];exact x.perm (g8 ..).symm
theorem Op.rvp(p:Op Z s r v s') :Es O r v:=by obtain⟨_,_,_,_,q⟩:=p;cases q <;> trivial
theorem PV.dr{out:Se Rv×Fm}(p:PV X O (P++T) out v s) :PV X O T out v s:=by obtain⟨r,e,h,x⟩:=p;exact⟨r,e,h,by rw[<- ah]at x;exact Fr.map x λR y=>y.sub<|List.Sublist.append_right (List.sublist_append_left _ _) _⟩
theorem Fr.op{Q:Sr}(x:Fr X O Y T s)(H:∀Z,bD Z s (X.W O Y T)->wpAny (model prog w) X.A m (Op Z s r) E s)(k:∀v s',PV X O T (.ok r,Y) v s'->Q v s') :wpAny (model prog w) X.A m Q E s:=
 aR x.sat λZ z=>aK (H Z z) (λv s' p=>k v s' ⟨r,rfl,p.rvp,n5<|p.sat z,x.slf⟩) λj0_ j1_ e=>e
end
section
variable {X:Cx}{O:bV}{Y:Fm}{T P:List At}{s:Shared}{i:Nat}{v:Value}{d:D}{Z:Ss}{Q:Sr}{E:Sr}{x a:Str}{pos p:Pos}
theorem JH{sl:Slot}(x:(vA ov sl).ok Z h)(n:sl≠ .no) :∃v,ov=some v/\handedOut v=pure v:=by cases sl with
 | no=>exact absurd rfl n
 | fz d=>exact aR x λv x=>⟨v,x.1,dW.casesOn (motive_1:=λv j0_ j1_=>handedOut v=pure v) x.2 rfl (λj0_=>rfl) (λj0_ j1_=>rfl) (λj0_ j1_ j2_ j3_=>rfl) (λj0_ j1_ j2_ j3_=>rfl) (λj0_ j1_ j2_ j3_=>rfl) λj0_ j1_ j2_ j3_=>rfl⟩
 | own d=>exact aR x λa x=>⟨_,x.1,rfl⟩
 | tab d=>exact aR x λa x=>⟨_,x.1,rfl⟩
 | exc e=>exact m5 x λa o C x=>⟨_,x.1,rfl⟩
theorem Fr.val{sl:Slot}(x:Fr X O Y T s)(h:Y[i]? = some sl)(n:sl≠ .no) :∃v,O i=some v/\handedOut v=pure v:=aR x.sat λZ y=>JH (y.ok _<|uq h) n
theorem Fr.dup(x:Fr X O Y T s)(h:Y[i]? = some (.fz d))(e:O i=some v) :Fr X O Y (zA (some v) d::T) s:=⟨n5 (P:=[_])<|aR x.sat λZ y=>⟨Z,y.dupz<|e▸uq (sl:=.fz d) h⟩,x.slf⟩
theorem Fr.frz(x:Fr X O Y T s)(h:Y[i]? = some (.own d))(e:O i=some v) :Fr X O (Y.set i<|.fz d) (zA (some v) d::T) s:=by have y:=x.take h;rw[e]at y;refine Fr.set ?_;rw[e];exact Fr.map (P:=[oA (some v) d]) (P':=[zA (some v) d,zA (some v) d]) y λR z=>aR (gh.frz z) λZ z=>⟨Z,z.dupz aa⟩
theorem Fr.base(x:Fr X O Y T s) :∀a o,B.get? a=some o->s.heap.get? a=some o:=aR x.sat λj0_ y=>y.base
theorem l9(y:Fr X O Y T s)(hv:X.U.isV x i)(e:O i=some v)(h:Q v s) :wpAny (model prog w) X.A (eval (.Name x pos) X.env) Q E s:=by
 refine wpAny_Name ?_ hv.2;obtain⟨Z,z⟩:=y.sat;have b:=(z.ok _ aa).2;rcases X.var x i hv.1 with⟨hk,el⟩ | ⟨hk | ⟨hk,hc⟩,c,hc',el⟩
 .exact aR ((b i _ el).2.2 v e) λm r=>wpAny_loadName_local X.kind hk r.1 r.2 h
 .exact wpAny_loadName_cell X.kind hk hc' ((b i _ el).2.2 v e) h
 .exact wpAny_loadName_free X.kind hk hc' ((b i _ el).2.2 v e) h hc
theorem iW{px dx:Addr}(y:Fr X O Y T s)(hJ:X.J = some (px,o,dx))(hx:x = X.U.sn)(ha:X.U.ats≠ [])(hd:(x == ("__debug__" :Str)) = false)(h:Q (.ref px) s) :wpAny (model prog w) X.A (eval (.Name x pos) X.env) Q E s:=by subst hx;obtain⟨Z,z⟩:=y.sat;have u:=X.ins ha;exact aR (((z.ok _ aa).2 _ _ u.2.2).2.2 _ (y.slf _ _ _ hJ)) λm r=>wpAny_Name (wpAny_loadName_local X.kind u.2.1 r.1 r.2 h) hd
theorem Sc.isA.ne{U:Sc}(hx:U.isA x a i) :U.ats≠ []:=λq=>by have:=hx.at';rw[q]at this;exact bz this
theorem md(y:Fr X O Y T s)(hx:X.U.isA x a i)(e:O i=some v)(hv:handedOut v=pure v)(h:∀tk,Q v {s with toks:=tk}) :wpAny (model prog w) X.A (eval (.Attribute (.Name x p) a pos) X.env) Q E s:=by
 have hn:=(X.ins hx.ne).1;rcases hJ:X.J with _ | ⟨px,o,dx⟩
 .exact absurd hJ hn
 have I:=X.inj _ _ _ hJ;refine Attribute_name<|iW y hJ hx.sn hx.ne hx.db ?_;obtain⟨c,C,hcr,hC,hcl⟩:=I.cls;obtain⟨C',N,mN,hC',P,hna,_⟩:=X.gd.pl _ c hcr;rw[hC]at hC';cases hC';obtain⟨Z,z⟩:=y.sat;obtain⟨k,hk,hi⟩:=(X.an hn).2 a i hx.at';have mem:nA px o dx (X.U.as.map O)∈X.W O Y T:=by refine ac _<|aC _ ?_;rw[hJ];exact aa
 obtain⟨⟨_,ho⟩,m,⟨hns,hw⟩,hm⟩:=z.ok _ mem;have hst:=hx.st;rw[hcr]at hst;obtain⟨nm,q,bs,sn,sub,col,dd,k0,k1,k2,k3,k5,hCo⟩:=(P.cls.keeps z.base).obj;exact load_attr hCo (P.cls.keeps z.base).ns (P.quiet _<|aC _ (by decide)) (P.quiet a<|aE _ hst) (hna a<|aN hk) ⟨o,ho,hcl,I.nc,.inr ⟨dx,I.dic,I.ne,hns⟩⟩ (hm k a v hk (by rw[bn,hi];exact congrArg some e)) hv<|h _
theorem jj(y:Fr X O Y T s)(hx:PE X.U o i)(e:O i=some v)(hv:handedOut v=pure v)(h:∀tk,Q v {s with toks:=tk}) :wpAny (model prog w) X.A (eval o X.env) Q E s:=by cases hx with
 | nm hx=>exact l9 y hx e<|h s.toks
 | atr hx=>exact md y hx e hv h
theorem fq(y:∀a o,B.get? a=some o->s.heap.get? a=some o)(hx:X.U.isG x)(hv:mg x=some v)(h:Q v s) :wpAny (model prog w) X.A (eval (.Name x pos) X.env) Q E s:=
 pX X.kind (X.gl x hx.1) (Calls.loadGlobal_global (by rw[X.glob];exact X.gd.g.keeps y) hv h) hx.2
theorem e9(y:∀a o,B.get? a = some o->s.heap.get? a = some o)(hx:X.U.isG x)(hm:x∈mC)(hn:x≠"__name__")(hv:bootBuiltins x = some v)(h:Q v s) :wpAny (model prog w) X.A (eval (.Name x pos) X.env) Q E s:=
 pX X.kind (X.gl x hx.1) (Calls.loadGlobal_builtin (by rw[X.glob];exact X.gd.g.keeps y) (X.gd.bi x hm) (by rw[X.blt];exact X.gd.b.keeps y) ((X.gd.bt x hn).trans hv) h) hx.2
theorem Cx.cl(X:Cx) :X.A.units+66<cLine:=by have:=X.un0;exact(Ln [X.A.5] (.w (.p 1<|.p 66 .x)<|.c 9900) [Gl (.p 4 .x)<|.c 4000] rfl this)
theorem PV.z(x:Fr X O Y (zA (some v) d::T) s) :PV X O T (.ok<|.fz d,Y) v s:=⟨.fz d,rfl,trivial,x⟩
theorem Fr.z{tk:Nat}(x:Fr X O Y T s)(r:∀Z,dW s.heap Z v d) :PV X O T (.ok<|.fz d,Y) v {s with toks:=tk}:=.z<|Fr.toks ⟨n5 (P:=[_])<|aR x.sat λZ y=>⟨Z,y.val<|r Z⟩,x.slf⟩
theorem oS{k:Const}(hk:gf k d) :SE X (eval (.Constant k kk pos) X.env) (ev X.c<|.lit d):=by intro O T s Y out h x;refine Er (bO h).symm ?_;cases hk with
 | none=>exact wpAny_Constant_none<|x.z (tk:=s.toks) λj0_=>.none
 | bool b=>exact wpAny_Constant_bool<|x.z (tk:=s.toks) λj0_=>.bool b
 | int i=>exact wpAny_Constant_int<|x.z (tk:=s.toks+1) λj0_=>.int i _
 | str x' hx hz=>exact wpAny_Constant_str<|x.z (tk:=s.toks+1) λj0_=>.str x' _ hx hz
theorem Nz{k:Nat}(hx:X.U.isG x)(hk:tb.gl[k]? = some x) :SE X (eval (.Name x pos) X.env) (ev X.c<|.gl k):=by exact λO T s Y out h y=>aR (cE h) λd z1=>Er (bO z1.2).symm<|aR (X.gd.gl k x d hk z1.1) λv q=>fq y.base hx q.1<|.z ⟨n5 (P:=[_])<|aR y.sat λZ z=>⟨Z,z.val<|q.2 _ _ z.base z.zb⟩,y.slf⟩
theorem xm{s:Option Slot}{Y:Fm}{i:Nat}{o:Se Rv×Fm}(h:JF s Y i=some o) :(∃d,s=some (.fz d)/\o=(.ok<|.fz d,Y))\/ ∃d,s=some (.own d)/\o=(.ok<|.fz d,Y.set i<|.fz d):=by
 rcases s with _ | _ | d | d | _ | _
 .exact bz h
 .exact bz h
 .exact .inl ⟨d,rfl,(bO h).symm⟩
 .exact .inr ⟨d,rfl,(bO h).symm⟩
 .exact bz h
 .exact bz h
theorem K5(h:lC Y (.var i)=true) :∃sl,Y[i]? = some sl/\sl≠ .no:=by
 have h:(match Y[i]? with
  | some sl=>sl.live
  | none=>false)=true:=h
 cases q:Y[i]? with
 | none=>rw[q]at h;exact tf h
 | some sl=>exact⟨sl,rfl,λe=>by rw[q,e]at h;exact tf h⟩
theorem t9{e:Expr}(hx:PE X.U e i) :SE X (eval e X.env) (ev X.c<|.var i):=by
 intro O T s Y out h y;rcases xm h with⟨d,hd,rfl⟩ | ⟨d,hd,rfl⟩
 .exact aR (y.val hd λn=>Slot.noConfusion n) λv q=>jj y hx q.1 q.2 λtk=>.z (y.dup hd q.1).toks
 .exact aR (y.val hd λn=>Slot.noConfusion n) λv q=>jj y hx q.1 q.2 λtk=>.z (y.frz hd q.1).toks
theorem A1{e:Expr}(hx:PE X.U e i) :SE X (eval e X.env) (ev X.c<|.pl<|.var i):=by intro O T s Y out h y;have z:=Cv h;refine aR (K5 z.1) λsl e=>Er (bO z.2).symm<|aR (y.val e.1 e.2) λv q=>jj y hx q.1 q.2 λtk=>⟨_,rfl,q.1,y.toks⟩
end
section
variable {X:Cx}{O:bV}{Y:Fm}{T:List At}{s:Shared}{out:Se Rv×Fm}{ga gb gc:Fm->dc Rv}{ma mb' mc:Sem Value}{Q:Sr}{ea eb ec:Expr}{pos:Pos}{whole:Sem Value}
theorem iT{d:D}(h:gU r=some d) :gV Y r=some d:=by cases r <;> first | exact h | exact bz h
theorem fO{Q Q':α->Shared->Prop}(h:wpAny (model prog w) A m Q E s)(k:∀v s',Q v s'->Q' v s') :wpAny (model prog w) A m Q' E s:=aK h k λj0_ j1_ x=>x
theorem l7{R:Sr}(op:∀{Z:Ss}{s:Shared}{d:D}{q:Rv}{v:Value},bD Z s []->f d=some q->eX s.heap Z v d->(∀u s',Op Z s q u s'->Q u s')->R v s)
  (Ha:SE X ma ga) (h:un ga f Y=some out) (x:Fr X O Y T s) (k:∀v s',PV X O T out v s'->Q v s') :wpAny (model prog w) X.A ma R (PX X O T out) s:=
 im (P:=[]) h (λu e=>Ha O T s Y u e x) λr bQ v aM h p bE=>aR (cE h) λd z=>aR bE.sat λZ y=>by obtain⟨q,hq,rfl⟩:=r5 z.2;exact op (y.sub<|List.nil_sublist _) hq ((In.hd p).dat y z.1) λu s' o=>k u s'<|PV.dr ⟨q,rfl,o.rvp,n5<|o.sat y,bE.slf⟩
theorem jQ{R:Value->Value->Shared->Prop}(op:∀{Z:Ss}{s:Shared}{d e:D}{q:Rv}{v v':Value},bD Z s []->f d e=some q->eX s.heap Z v d->eX s.heap Z v' e->(∀u s',Op Z s q u s'->Q u s')->R v v' s)
  (Ha:SE X ma ga) (Hb:SE X mb' gb) (h:bin ga gb f Y=some out) (x:Fr X O Y T s) (k:∀v s',PV X O T out v s'->Q v s') :
  wpAny (model prog w) X.A ma (λv aM=>wpAny (model prog w) X.A mb' (R v) (PX X O T out) aM) (PX X O T out) s:=
 im (P:=[]) h (λu e=>Ha O T s Y u e x) λr bQ v aM h p bE=>im (P:=tA r v) h (λu e=>Hb O _ aM bQ u e bE) λr' aP v' bC h p' cB=>aR (cE h) λd z1=>aR (cE z1.2) λe z2=>aR cB.sat λZ y=>by obtain⟨q,hq,rfl⟩:=r5 z2.2;exact op (y.sub<|List.nil_sublist _) hq ((In.hd p).tl.dat y z1.1) ((In.hd p').dat y z2.1) λu s' o=>k u s'<|PV.dr<|PV.dr ⟨q,rfl,o.rvp,n5<|o.sat y,cB.slf⟩
theorem xK{d e:D}{q:Rv}{v v':Value}(hu:A.units+66<cLine)(h:Ib o d e=some q)(a:eX s.heap Z v d)(b:eX s.heap Z v' e) :wpAny (model prog w) A (compareOp (iO o) v v') (Op Z s q) E s:=
 aR (aT.mp h) λb' z=>z.2▸oZ z.1 a b hu
theorem Kf(Ha:SE X (eval ea X.env) ga)(Hb:SE X (eval eb X.env) gb) :SE X (eval (.BinOp ea (FQ o) eb pos) X.env) (bin ga gb<|op2 o):=λO T s Y out h x=>
 wpAny_BinOp (jQ (λj0_ h a b k=>fO (KN (by cases o <;> rfl) h a b) k) Ha Hb h x λj0_ j1_ p=>p)
theorem Km(Ha:SE X (eval ea X.env) ga)(Hb:SE X (eval eb X.env) gb)(hm:behindInMarks (iO o) eb=false) :SE X (eval (.Compare ea [iO o] [eb] pos) X.env) (bin ga gb<|Ib o):=λO T s Y out h x=>
 wpAny_Compare1 (jQ (λj0_ h a b k=>fO (xK X.cl h a b) k) Ha Hb h x λj0_ j1_ p=>p) hm
theorem Kh(Ha:SE X (eval ea X.env) ga) :SE X (eval (.UnaryOp .USub ea pos) X.env) (un ga NT):=λO T s Y out h x=>
 UnaryOp_ (l7 (λj0_ h a k=>aR (aT.mp h) λe z=>fO (KK z.1 a) λu s' p=>k u s'<|z.2▸p) Ha h x λj0_ j1_ p=>p)
theorem Kg(Ha:SE X (eval ea X.env) ga) :SE X (eval (.UnaryOp .Not ea pos) X.env) (un ga KU):=λO T s Y out h x=>
 UnaryOp_ (l7 (λj0_ h a k=>fO (KJ a) λu s' p=>k u s'<|bO h▸p) Ha h x λj0_ j1_ p=>p)
theorem Kk(Ha:SE X (eval ea X.env) ga)(Hb:SE X (eval eb X.env) gb)(G:∀o i,subscripted eb false o i=operate [o,i] (getItem o i)) :SE X (eval (.Subscript ea eb pos) X.env) (bin ga gb Ox):=λO T s Y out h x=>
 Subscript_ (jQ (λj0_ h a b k=>aR (aT.mp h) λe z=>kL (vN z.1 a b) λT id Q=>tail_any Q.1 Q.2.1 (fO Q.2.2 λu s' p=>k u s'<|z.2▸p)<|G _ _) Ha Hb h x λj0_ j1_ p=>p)
inductive PT(X:Cx)(O:bV)(T:List At)(out:Se Rv×Fm)(b:Bool)(s':Shared) :Prop
 | mk (r:Rv) (d:D) :out.1 = .ok r->gV out.2 r=some d->b=tD d->Fr X O out.2 T s'->PT X O T out b s'
noncomputable def ST(X:Cx)(m:Sem Bool)(g:Fm->dc Rv) :Prop:= ∀(O:bV)(T:List At)(s:Shared)(Y:Fm)(out:Se Rv×Fm),g Y=some out->(∀r,out.1 = .ok r-> ∃d,gV out.2 r=some d)->Fr X O Y T s->wpAny (model prog w) X.A m (PT X O T out) (PX X O T out) s
theorem PV.truth{v:Value}(p:PV X O T out v s)(hd:∀r,out.1 = .ok r-> ∃d,gV out.2 r=some d) :wpAny (model prog w) X.A (truthy v) (PT X O T out) E s:=by obtain⟨r,e,h,x⟩:=p;exact aR (hd r e) λd hr=>aR x.sat λZ y=>oY ((In.hd h).dat y hr) λtk=>⟨r,d,e,hr,rfl,x.drop.toks⟩
theorem ST.of{e:Expr}(H:SE X (eval e X.env) ga)(he:isTrue e X.env (eval e X.env)=(do let v <- eval e X.env;standAt e.pos;holding [v] (truthy v))) :ST X (isTrue e X.env<|eval e X.env) ga:=λO T s Y out h hd x=>
 isTrue_plain (aK (H O T s Y out h x) (λv s' p=>p.truth hd) λj0_ j1_ x=>x) he
theorem JR(Ha:SE X (eval ea X.env) ga)(Hb:SE X (eval eb X.env) gb)(hm:behindInMarks (iO o) eb=false) :ST X (isTrue (.Compare ea [iO o] [eb] pos) X.env whole) (bin ga gb<|Ib o):=λO T s Y out h hd x=>
 wpAny_isTrue_Compare1 (jQ (λj0_ h a b k=>fO (xK X.cl h a b) k) Ha Hb h x λv s' p=>p.truth hd) hm
theorem AX{k:Rv->Fm->dc β}{out:Se β×Fm}{Q:Bool->Shared->Prop}(hk:bI o k=some out)(hd:∀r aP,k r aP=some out-> ∃d,gV aP r=some d)
  (H:∀u,o=some u->(∀r,u.1 = .ok r-> ∃d,gV u.2 r=some d)->wpAny (model prog w) X.A m (PT X O T u) (PX X O T u) s)
  (K:∀r d aP bC,k r aP=some out->gV aP r=some d->Fr X O aP T bC->Q (tD d) bC) :wpAny (model prog w) X.A m Q (PX X O T out) s:=by
 rcases dD hk with⟨e,f,hm,rfl⟩ | ⟨r,f,hm,hk⟩
 .exact aK (H _ hm λr q=>on q) (λv s' p=>by obtain⟨_,_,q,_⟩:=p;exact on q) λj0_ j1_ x=>PX.to (P:=[]) x
 .refine aK (H _ hm λr' q=>ky q▸hd r f hk) (λv s' p=>?_) λj0_ j1_ x=>x.no;obtain⟨r',d,q,e,rfl,x⟩:=p;obtain rfl:=ky q;exact K r d f s' hk e x
theorem JQ(Ha:ST X (isTrue ea X.env<|eval ea X.env) ga) :ST X (isTrue (.UnaryOp .Not ea pos) X.env whole) (un ga KU):=λO T s Y out h j0_ x=>
 isTrue_not (AX h (λr aP h=>aR (cE h) λd z=>⟨_,z.1⟩) (λu e hd=>Ha O T s Y u e hd x) λr d bQ aM h hd bE=>by rw[hd]at h;exact bO h▸⟨_,_,rfl,rfl,rfl,bE⟩)
end
noncomputable def F2(P:Expr->Ex->Prop) :Sn->List Ex->Prop
 | [],[]=>True
 | e::es,x::S=>P e x/\F2 P es S
 | _,_=>False
theorem F2.rec'{P:Expr->Ex->Prop}{M:Sn->List Ex->Prop}(h0:M [] [])(h1:∀{e es x S},P e x->F2 P es S->M es S->M (e::es) (x::S)) :∀{es:Sn}{S:List Ex},F2 P es S->M es S:=by intro es;induction es with
 | nil=>intro S F;cases S with | nil=>exact h0 | cons=>exact F.elim
 | cons e es ih=>intro S F;cases S with | nil=>exact F.elim | cons x S=>exact h1 F.1 F.2<|ih F.2
section
variable {X:Cx}{O:bV}{Y:Fm}{T P:List At}{s:Shared}{out:Se Rv×Fm}{ga gb gc:Fm->dc Rv}{Q:Sr}{ea eb ec:Expr}{pos:Pos}{whole:Sem Value}{v:Value}
theorem PV.toks{tk:Nat}(p:PV X O T out v s) :PV X O T out v {s with toks:=tk}:=by obtain⟨r,e,h,x⟩:=p;exact⟨r,e,h,x.toks⟩
theorem Aj
  (h:wpAny (model prog w) A (eval kX env) (λv aM=>wpAny (model prog w) A (truthy v) (λb bC=>if b=j then wpAny (model prog w) A (eval (.BoolOp (Am j) (QL::rest) pos) env) Q E bC else Q v bC) E aM) E s) :
  wpAny (model prog w) A (eval (.BoolOp (Am j) (kX::QL::rest) pos) env) Q E s:=by
 cases j with
 | true=>exact BoolOp_and h
 | false=>exact BoolOp_or<|aK h (λv aM h=>aK h (λb bC h=>by cases b <;> exact h) λj0_ j1_ x=>x) λj0_ j1_ x=>x
theorem qN{x:Expr}{Q:Bool->Shared->Prop}
  (h:wpAny (model prog w) A (isTrue x env<|eval x env) (λb s'=>if b=j then wpAny (model prog w) A (isTrue (.BoolOp (Am j) rest pos) env whole) Q E s' else Q b s') E s) :
  wpAny (model prog w) A (isTrue (.BoolOp (Am j) (x::rest) pos) env whole) Q E s:=by
 cases j with
 | true=>exact isTrue_and<|aK h (λb bC h=>by cases b <;> exact h) λj0_ j1_ x=>x
 | false=>exact isTrue_or<|aK h (λb bC h=>by cases b <;> exact h) λj0_ j1_ x=>x
theorem wg{j b:Bool}{Q:Bool->Shared->Prop}(h:Q b s) :if b=j then wpAny (model prog w) A (isTrue (.BoolOp (Am j) [] pos) env whole) Q E s else Q b s:=by cases j <;> cases b <;> first | exact h | exact isTrue_and_nil h | exact isTrue_or_nil h
theorem NB:∀{es:Sn}{S:List Ex},F2 (λe x=>SE X (eval e X.env)<|ev X.c x) es S->SE X (eval (.BoolOp (Am j) es pos) X.env) (evB X.c j S):=by refine F2.rec' (M:=λes S=>SE X (eval (.BoolOp (Am j) es pos) X.env)<|evB X.c j S) (λO T s Y out h x=>bz h) λ{e es x S} H F ih O T s Y out h y=>?_;cases es with
 | nil=>cases S with
  | nil=>exact BoolOp_one<|im (P:=[]) h (λu e=>H O T s Y u e y) λr bQ v aM h p bE=>aR (cE h) λj0_ z=>bO z.2▸⟨r,rfl,p,bE⟩
  | cons=>exact F.elim
 | cons e' es=>cases S with
  | nil=>exact F.elim
  | cons x' S=>
   refine Aj<|im (P:=[]) h (λu e=>H O T s Y u e y) λr bQ v aM h p bE=>aR (cE h) λd z=>?_;have h:=z.2;refine aR bE.sat λZ y=>oY ((In.hd p).dat y<|iT z.1) λtk=>?_;by_cases ht:tD d=j
   .rw[if_pos ht]at h |-;exact ih O T _ bQ out h bE.drop.toks
   .rw[if_neg ht]at h |-;exact bO h▸⟨r,rfl,p,bE.toks⟩
theorem Nx:∀{es:Sn}{S:List Ex},F2 (λe x=>ST X (isTrue e X.env<|eval e X.env)<|ev X.c x) es S->ST X (isTrue (.BoolOp (Am j) es pos) X.env whole) (evB X.c j S):=by refine F2.rec' (M:=λes S=>ST X (isTrue (.BoolOp (Am j) es pos) X.env whole)<|evB X.c j S) (λO T s Y out h j0_ x=>bz h) λ{e es x S} H F ih O T s Y out h hd0 y=>?_;cases es with
 | nil=>cases S with
  | nil=>exact qN<|AX h (λr aP h=>aR (cE h) λj0_ z=>⟨_,iT z.1⟩) (λu e hd=>H O T s Y u e hd y) λr d bQ aM h hd bE=>aR (cE h) λj0_ z=>bO z.2▸wg ⟨r,d,rfl,hd,rfl,bE⟩
  | cons=>exact F.elim
 | cons e' es=>cases S with
  | nil=>exact F.elim
  | cons x' S=>
   refine qN<|AX h (λr aP h=>aR (cE h) λj0_ z=>⟨_,iT z.1⟩) (λu e hd=>H O T s Y u e hd y) λr d bQ aM h hd bE=>aR (cE h) λd' z=>?_;have h:=z.2;have hd2:=iT (Y:=bQ) z.1;rw[hd]at hd2;obtain rfl:=bO hd2;by_cases ht:tD d=j
   .rw[if_pos ht]at h |-;exact ih O T _ bQ out h hd0 bE
   .rw[if_neg ht]at h |-;exact bO h▸⟨r,d,rfl,hd,rfl,bE⟩
noncomputable def frz:Rv->Rv
 | .own d=>.fz d
 | r=>r
def tE:List Rv->Si->List At
 | r::rs,v::ws=>tE rs ws++tA (frz r) v
 | _,_=>[]
noncomputable def mG(O:bV) :List Rv->Si->Prop
 | r::rs,v::ws=>Es O r v/\mG O rs ws
 | [],[]=>True
 | _,_=>False
inductive PQ(X:Cx)(O:bV)(T:List At)(out:Se (List Rv)×Fm)(ws:Si)(s':Shared) :Prop
 | mk (rs:List Rv) :out.1 = .ok rs->mG O rs ws->Fr X O out.2 (tE rs ws++T) s'->PQ X O T out ws s'
theorem Fr.frzT(x:Fr X O Y (tA r v++T) s) :Fr X O Y (tA (Mv.frz r) v++T) s:=by cases r with
 | own d=>exact Fr.map (P:=[_]) (P':=[_]) x λR y=>y.frz
 | _=>exact x
theorem mG.len{O:bV} :∀{rs:List Rv}{ws:Si},mG O rs ws->rs.length=ws.length:=by intro rs;induction rs with
 | nil=>intro ws h;cases ws with | nil=>rfl | cons=>exact h.elim
 | cons r rs ih=>intro ws h;cases ws with | nil=>exact h.elim | cons w ws=>exact congrArg (· + 1)<|ih h.2
theorem nF{k:List Rv->Fm->dc β}{out:Se β×Fm}{Q:Si->Shared->Prop}(hk:bI o k=some out)(H:∀u,o=some u->wpAny (model prog w) X.A m (PQ X O (P++T) u) (PX X O (P++T) u) s)
  (K:∀rs aP ws bC,o=some (.ok rs,aP)->k rs aP=some out->mG O rs ws->Fr X O aP (tE rs ws++(P++T)) bC->Q ws bC) :wpAny (model prog w) X.A m Q (PX X O T out) s:=by
 rcases dD hk with⟨e,f,hm,rfl⟩ | ⟨r,f,hm,hk⟩
 .exact aK (H _ hm) (λv s' p=>by obtain⟨_,q,_⟩:=p;exact on q) λj0_ j1_ x=>x.to
 .refine aK (H _ hm) (λv s' p=>?_) λj0_ j1_ x=>x.no;obtain⟨r',q,h,x⟩:=p;obtain rfl:=ky q;exact K r f v s' hm hk h x
noncomputable def RG(X:Cx)(m:Sem Si)(g:Fm->dc (List Rv)) :Prop:= ∀(O:bV)(T:List At)(s:Shared)(Y:Fm)(out:Se (List Rv)×Fm),g Y=some out->Fr X O Y T s->wpAny (model prog w) X.A m (PQ X O T out) (PX X O T out) s
theorem vG:∀{es:Sn}{S:List Ex},F2 (λe x=>CE X.U e x/\SE X (eval e X.env) (ev X.c x)) es S->RG X (spliced<|backTo pos<|starEach es X.env) (evs X.c S):=by refine F2.rec' (M:=λes S=>RG X (spliced<|backTo pos<|starEach es X.env)<|evs X.c S) (λO T s Y out h x=>bO h▸spliced_none ⟨[],rfl,trivial,x⟩) λ{e es x S} H F ih O T s Y out h y=>?_;refine n8 (im (P:=[]) h (λu e=>H.2 O T s Y u e y) λr bQ v aM h p bE=>?_)<|H.1.star X.env es;exact nF (P:=tA (frz r) v) h (λu e=>ih O _ aM bQ u e bE.frzT) λrs aP ws bC j0_ h p' cB=>bO h▸⟨r::rs,rfl,⟨p,p'⟩,by show Fr X O aP ((tE rs ws++tA (frz r) v)++T) bC;rw[ah];exact cB⟩
theorem sR{c:gR} :∀{S:List Ex}{Y fr':Fm}{rs:List Rv},evs c S Y=some (.ok rs,fr')->rs.length=S.length:=by intro S;induction S with
 | nil=>intro Y fr' rs h;obtain⟨rfl,rfl⟩:=Qn h;rfl
 | cons x S ih=>
  intro Y fr' rs h;rcases dD h with⟨_,_,_,q⟩ | ⟨a,f,_,q⟩
  .cases q
  .rcases dD q with⟨_,_,_,q⟩ | ⟨a',f',h',q⟩
   .cases q
   .obtain⟨rfl,rfl⟩:=Qn q;exact congrArg (· + 1)<|ih h'
theorem jf{W:List At}(y:bD Z s W) :∀{rs:List Rv}{ws:Si}{V:Sb},(∀p∈tE rs ws,p∈W)->rs.length=ws.length->gE rs=some V->RepAll s.heap Z ws V:=by intro rs;induction rs with
 | nil=>intro ws V h l e;cases ws with | nil=>exact bO e▸ .nil | cons=>exact nomatch l
 | cons r rs ih=>intro ws V h l e;cases ws with
  | nil=>exact nomatch l
  | cons v ws=>
   refine kL (A8 e) λd ds' z=>?_;refine Er z.2.2<|.cons ?_<|ih (λp hp=>h p<|aC _ hp) (be l) z.2.1;have hm:zA (some v) d∈W:=h _ (aE _ (by cases r with
    | fz d'=>obtain rfl:=bO z.1;exact aa
    | own d'=>obtain rfl:=bO z.1;exact aa
    | pl p=>exact bz z.1))
   exact .dz y hm
theorem sf{ws:Si}(h:ws.length<=1000) :ws.toArray.size<=sizeLine:=af (ax▸h) (by decide)
theorem A0{k:Nat}(F:F2 (λe x=>CE X.U e x/\SE X (eval e X.env) (ev X.c x)) es S)(hl:S.length<=1000) :SE X (eval (.Tuple es k pos) X.env) (ev X.c<|.tup S):=λO T s Y out h x=>
 Tuple_ (nF (P:=[]) h (λu e=>vG F O T s Y u e x) λrs bQ ws aM kX h p bE=>aR (xM h) λV hq=>hq.2▸aR bE.sat λZ y=>by have hz:ws.length<=1000:=p.len▸sR kX▸hl;refine cc ?_<|sf hz;have q:=Op.newT (n:=0) (jf y (λp hp=>em<|aC _ hp) p.len hq.1)<|af hz (by decide);exact PV.dr ⟨_,rfl,q.rvp,n5<|q.sat y,bE.slf⟩)
theorem Fl(F:F2 (λe x=>CE X.U e x/\SE X (eval e X.env) (ev X.c x)) es S)(hl:S.length<=1000) :SE X (eval (.List es pos) X.env) (ev X.c<|.list S):=λO T s Y out h x=>
 List_ (nF (P:=[]) h (λu e=>vG F O T s Y u e x) λrs bQ ws aM kX h p bE=>aR (xM h) λV hq=>hq.2▸aR bE.sat λZ y=>by have hz:ws.length<=1000:=p.len▸sR kX▸hl;refine cc ?_<|sf hz;have q:=Op.newL (n:=0) (jf y (λp hp=>em<|aC _ hp) p.len hq.1)<|af hz (by decide);exact PV.dr ⟨_,rfl,q.rvp,n5<|q.sat y,bE.slf⟩)
end
noncomputable def d5(Y:Fm) :List Rv->List Slot->Fm
 | .pl (.var i)::rs,sl::ss=>if sl.lent=true then(d5 Y rs ss).set i .no else d5 Y rs ss
 | _::rs,_::ss=>d5 Y rs ss
 | _,_=>Y
noncomputable def oB(Y:Fm) :Rv->Option Slot
 | .fz d=>some<|Slot.fz d
 | .own d=>some<|.fz d
 | .pl (.var i)=>(match Y[i]? with
  | some (.fz d)=>some<|.fz d
  | some (.own d)=>some<|.own d
  | _=>none)
theorem iP(h:fG Y (r::rs)=some ss) :∃sl ss',ss=sl::ss'/\oB Y r=some sl/\fG Y rs=some ss':=by
 have h:(match oB Y r,fG Y rs with
  | some s,some ss=>some (s::ss)
  | _,_=>none)=some ss:=by
  cases r with
  | fz d=>exact h
  | own d=>exact h
  | pl p=>cases p;exact h
 cases h1:oB Y r with
 | none=>rw[h1]at h;exact bz h
 | some sl=>rw[h1]at h;cases h2:fG Y rs with
  | none=>rw[h2]at h;exact bz h
  | some ss'=>rw[h2]at h;exact Er (bO h).symm ⟨sl,ss',rfl,rfl,rfl⟩
theorem xd{sl:Slot}(h:oB Y (.pl<|.var i)=some sl) :Y[i]? = some sl/\((∃d,sl = .fz d)\/ ∃d,sl = .own d):=by
 have h:(match Y[i]? with
  | some (.fz d)=>some<|.fz d
  | some (.own d)=>some<|.own d
  | _=>none)=some sl:=h
 generalize Y[i]? = o at h |-;rcases o with _ | _ | d | d | _ | _
 .exact bz h
 .exact bz h
 .exact⟨h,.inl ⟨d,(bO h).symm⟩⟩
 .exact⟨h,.inr ⟨d,(bO h).symm⟩⟩
 .exact bz h
 .exact bz h
theorem qM:∀{rs:List Rv}{ss:List Slot},i∉gF rs->(d5 Y rs ss)[i]? = Y[i]?:=by intro rs;induction rs with
 | nil=>intro ss _;cases ss <;> rfl
 | cons r rs ih=>intro ss h;cases ss with
  | nil=>cases r with | pl p=>cases p;rfl | _=>rfl
  | cons sl ss=>cases r with
   | pl p=>cases p with
    | var j=>
     have h:i∉j::gF rs:=h;rw[am,not_or]at h;show(if sl.lent=true then(d5 Y rs ss).set j .no else d5 Y rs ss)[i]? = _
     by_cases q:sl.lent=true
     .rw[if_pos q,List.getElem?_set_ne<|Ne.symm h.1];exact ih h.2
     .rw[if_neg q];exact ih h.2
   | fz _=>exact ih (ss:=ss) h
   | own _=>exact ih (ss:=ss) h
theorem qL:∀{rs:List Rv}{ss:List Slot},i∉gF rs->(d5 Y rs ss).set i o=d5 (Y.set i o) rs ss:=by intro rs;induction rs with
 | nil=>intro ss _;cases ss <;> rfl
 | cons r rs ih=>intro ss h;cases ss with
  | nil=>cases r with | pl p=>cases p;rfl | _=>rfl
  | cons sl ss=>cases r with
   | pl p=>cases p with
    | var j=>
     have h:i∉j::gF rs:=h;rw[am,not_or]at h;show(if sl.lent=true then(d5 Y rs ss).set j .no else d5 Y rs ss).set i o=if sl.lent=true then(d5 (Y.set i o) rs ss).set j .no else d5 (Y.set i o) rs ss
     by_cases q:sl.lent=true
     .rw[if_pos q,if_pos q,List.set_comm _ _<|Ne.symm h.1,ih h.2]
     .rw[if_neg q,if_neg q];exact ih h.2
   | fz _=>exact ih (ss:=ss) h
   | own _=>exact ih (ss:=ss) h
section
variable {X:Cx}{O:bV}{Y:Fm}{T P:List At}{s:Shared}{v:Value}
theorem Fr.perm(x:Fr X O Y T s)(h:T.Perm T') :Fr X O Y T' s:=by
 have:=Fr.map (P:=T) (P':=T') (T:=[]) (s':=s) (by rw[aI];exact x) λR y=>y.perm<|h.append_right R
 rw[aI]at this;exact this
theorem Qw:∀{rs:List Rv}{ss:List Slot}{ws:Si}{T:List At},fG Y rs=some ss->(gF rs).Nodup->mG O rs ws->Fr X O Y (tE rs ws++T) s->Fr X O (d5 Y rs ss) (jJ (ws.map some) ss++T) s:=by intro rs;induction rs with
 | nil=>intro ss ws T h _ p x;obtain rfl:=bO (show some []=some ss from h);cases ws with | nil=>exact x | cons=>exact p.elim
 | cons r rs ih=>intro ss ws T h nd p x;cases ws with
  | nil=>exact p.elim
  | cons u ws=>
   obtain⟨sl,ss',rfl,h1,h2⟩:=iP h;have x':Fr X O Y (tE rs ws++(tA (frz r) u++T)) s:=by rw[<- ah];exact x
   have go:(gF rs).Nodup->Fr X O (d5 Y rs ss') (jJ (ws.map some) ss'++(tA (frz r) u++T)) s:=λnd=>ih h2 nd p.2 x';cases r with
   | fz d=>obtain rfl:=bO h1;exact(go nd).perm List.perm_middle
   | own d=>obtain rfl:=bO h1;exact(go nd).perm List.perm_middle
   | pl q=>cases q with
    | var i=>
     have nd:=bh.mp (show(i::gF rs).Nodup from nd);have y:=go nd.2;have e:O i=some u:=p.1;obtain⟨hf,hd⟩:=xd h1;have hg:(d5 Y rs ss')[i]? = some sl:=(qM nd.1).trans hf;show Fr X O (if sl.lent=true then(d5 Y rs ss').set i .no else d5 Y rs ss') (vA (some u) sl::(jJ (ws.map some) ss'++T)) s
     rcases hd with⟨d,rfl⟩ | ⟨d,rfl⟩
     .exact y.dup hg e
     .have z:=y.take hg;rw[e]at z;exact z
noncomputable def Lk:List Rv->List Slot->Prop
 | r::rs,sl::ss=>(sl.lent=true-> ∃i,r = .pl (.var i))/\Lk rs ss
 | [],[]=>True
 | _,_=>False
theorem N2:∀{rs:List Rv}{ss:List Slot},fG Y rs=some ss->Lk rs ss:=by intro rs;induction rs with
 | nil=>intro ss h;obtain rfl:=bO (show some []=some ss from h);trivial
 | cons r rs ih=>intro ss h;obtain⟨sl,ss',rfl,h1,h2⟩:=iP h;refine⟨λq=>?_,ih h2⟩;cases r with
  | fz d=>obtain rfl:=bO h1;exact nomatch q
  | own d=>obtain rfl:=bO h1;exact nomatch q
  | pl p=>cases p;exact⟨_,rfl⟩
theorem back:∀{rs:List Rv}{ss:List Slot}{ws:Si}{outs:List Slot}{Y:Fm}{T:List At},Lk rs ss->(gF rs).Nodup->mG O rs ws->outs.length=(gn ss ws).length->Fr X O (d5 Y rs ss) (jJ (gn ss ws) outs++T) s->Fr X O (f9 Y rs ss outs) T s:=by intro rs;induction rs with
 | nil=>intro ss ws outs Y T h _ p l x;cases ss with | nil=>exact Fr.drop x | cons=>exact h.elim
 | cons r rs ih=>
  intro ss ws outs Y T h nd p l x;cases ss with
  | nil=>exact h.elim
  | cons sl ss=>
  cases ws with
  | nil=>exact p.elim
  | cons u ws=>
  rw[zX];have lv:gn (sl::ss) (u::ws)=if sl.lent=true then some u::gn ss ws else gn ss ws:=rfl
  rw[lv]at l x;by_cases q:sl.lent=true
  .obtain⟨i,rfl⟩:=h.1 q;have nd:=bh.mp (show(i::gF rs).Nodup from nd);have e:O i=some u:=p.1;rw[if_pos q]at l x |-;cases outs with
   | nil=>exact nomatch l
   | cons o os=>have x:Fr X O (if sl.lent=true then(d5 Y rs ss).set i .no else d5 Y rs ss) (vA (some u) o::(jJ (gn ss ws) os++T)) s:=x;rw[if_pos q,<- e]at x;have y:=x.set;rw[qL nd.1]at y;exact ih h.2 nd.2 p.2 (be l) y
  .rw[if_neg q]at l x |-;refine ih h.2 ?_ p.2 l ?_
   .cases r with
    | pl q=>cases q;exact(bh.mp nd).2
    | fz _=>exact nd
    | own _=>exact nd
   .cases r with
    | pl p'=>cases p' with | var i=>exact(if_neg q:(if sl.lent=true then(d5 Y rs ss).set i .no else d5 Y rs ss)=_)▸x
    | fz _=>exact x
    | own _=>exact x
theorem oz{Q:Args->Shared->Prop}(F:F2 (λe x=>CE X.U e x/\SE X (eval e X.env) (ev X.c x)) es S)
  (h:wpAny (model prog w) X.A (spliced<|backTo pos<|starEach es X.env) (λO s'=>Q ⟨O,[]⟩ s') E s) :wpAny (model prog w) X.A (evalArgs f true (backTo pos<|starEach es X.env) []) Q E s:=by
 cases es with
 | nil=>unfold evalArgs;exact ae<|aK h (λO s' h'=>d6<|ae<|au<|ae<|au<|au h') λj0_ j1_ x=>x
 | cons e es=>cases S with
  | nil=>exact F.elim
  | cons x S=>rw[F.1.1.star X.env es]at h |-;exact bS h
theorem qA.of(X:Cx){d:DefRec}(hf:tb.fn[f]? = some d/\f<tb.m0) :∃fa o,mg d.name=some (.ref fa)/\B.get? fa=some o/\(∃pm code doc,o.data = .func (Calls.docDef d.name d.params d.body d.scope pm code doc))/\qA f d none fa:=by obtain⟨a,o,pm,code,doc,hm,ho,hd,hcr⟩:=X.gd.fn f d hf.2 hf.1;exact⟨a,o,hm,ho,⟨pm,code,doc,hd⟩,⟨λj0_=>hf.2,λj0_=>rfl⟩,(λj0_ j1_ j2_ q=>bz q),o,d.name,pm,code,doc,ho,hd,hcr⟩
theorem DW{out:Se Rv×Fm}(h:bI (some (o,f)) (λr Y=>mo (gU r) λj0_=>some (.ok r,Y))=some out) :out=(o,f):=by cases o with
 | error e=>exact(bO h).symm
 | ok r=>exact aR (cE h) λj0_ h=>(bO h.2).symm
theorem Cx.frok(X:Cx){O:bV}{W:List At}(h0:bA X.L X.ls O∈W)(hK:∀p∈X.K,p∈W) :tC (λa=> ∃p∈W,p.Y a) X.A:=aR X.stk λl h=>⟨l,h.1,λe he=>⟨(h.2 e he).1,aR (h.2 e he).2 λL u=>⟨L,u.1,u.2.elim (λq=>⟨_,h0,q⟩) λq=>aR q λp q=>⟨p,hK p q.1,q.2⟩⟩⟩⟩
theorem yk:∀{as:Sg}{Y:Fm},i∉as->(clr Y as).set i o=clr (Y.set i o) as:=by intro as;induction as with
 | nil=>exact λj0_=>rfl
 | cons j as ih=>intro Y h;rw[am,not_or]at h;show(clr (Y.set j .no) as).set i o=clr ((Y.set i o).set j .no) as;rw[ih h.2,List.set_comm _ _<|Ne.symm h.1]
theorem Ic:∀{as:Sg}{Y:Fm},i∉as->(clr Y as)[i]? = Y[i]?:=by intro as;induction as with
 | nil=>exact λj0_=>rfl
 | cons j as ih=>intro Y h;rw[am,not_or]at h;exact(ih h.2).trans<|List.getElem?_set_ne<|Ne.symm h.1
theorem wY{sl:Slot} :∀{as:Sg}{Y:Fm},i∈as->(clr Y as)[i]? = some sl->sl = .no:=by intro as;induction as with
 | nil=>exact λh=>nomatch h
 | cons j as ih=>
  intro Y h e;by_cases q:i∈as
  .exact ih q e
  .obtain rfl:i=j:=(am.mp h).elim id λz=>absurd z q;have e:=(Ic q).symm.trans e;rw[rD]at e;rw[if_pos rfl]at e;exact(gQ e).2.symm
theorem Iw{as:Sg}(h:i∉as) :jz (Y.set i o) as=jz Y as:=dG λj hj=>by rw[List.getElem?_set_ne λ(e:i=j)=>h<|e▸hj]
theorem Fr.takes:∀{as:Sg}{Y:Fm}{T:List At},as.Nodup->Fr X O Y T s->Fr X O (Mv.clr Y as) (jJ (as.map O) (jz Y as)++T) s:=by intro as;induction as with
 | nil=>exact λj0_ x=>x
 | cons i as ih=>
  intro Y T nd x;have nd:=bh.mp nd;have y:Fr X O (Y.set i .no) (vA (O i) ((Y[i]?).getD .no)::T) s:=by cases h:Y[i]? with
   | none=>rw[List.set_eq_of_length_le<|cW.mp h];exact Fr.push (P':=[_]) x λR y=>aR y λZ y=>⟨Z,bD.nw (tk:=s.toks) y (λj0_ j1_ e=>e) (λj0_ z=>z) (λj0_ z=>.inl z) trivial λj0_ h=>h.elim⟩
   | some sl=>exact x.take h
  have z:=ih nd.2 y;rw[Iw nd.1]at z;exact z.perm List.perm_middle
theorem Fr.puts:∀{as:Sg}{outs:List Slot}{Y:Fm}{T:List At},as.Nodup->outs.length=as.length->Fr X O (Mv.clr Y as) (jJ (as.map O) outs++T) s->Fr X O (f6 Y as outs) T s:=by intro as;induction as with
 | nil=>intro outs Y T _ l x;cases outs with | nil=>exact Fr.drop (P:=[]) x | cons=>exact nomatch l
 | cons i as ih=>intro outs Y T nd l x;have nd:=bh.mp nd;cases outs with
  | nil=>exact nomatch l
  | cons o os=>have x:Fr X O (Mv.clr (Y.set i .no) as) (vA (O i) o::(jJ (as.map O) os++T)) s:=x;rw[<- yk nd.1]at x;have y:=x.set;rw[yk nd.1]at y;exact ih nd.2 (be l) y
theorem hZ:∀{Y:Fm}{k:Nat},(∀i sl,Y[i]? = some sl->sl≠ .no->vs' (k+i)=O (k+i))->Sk vs' k Y=Sk O k Y:=by intro Y;induction Y with
 | nil=>exact λj0_=>rfl
 | cons sl Y ih=>
  intro k h;show vA (vs' k) sl::_=vA (O k) sl::_
  rw[ih λi sl e n=>by have:=h (i+1) sl e n;rw[<- dv,d4]at this;exact this];cases sl with
  | no=>rfl
  | _=>rw[show vs' k=O k from h 0 _ rfl λq=>nomatch q]
theorem D0{O vs':bV}(h:∀i l,ls i=some l->vs' i=O i) :bA L ls vs'=bA L ls O:=by
 have e:(λ(_:Ss) (hp:Heap)=>(∃m,hp.Ns L m)/\ ∀i l,ls i=some l->(∀a,l = .cell a->a≠L)/\FS hp l/\ ∀v,vs' i=some v->FD hp l v)=λj0_ hp=>(∃m,hp.Ns L m)/\ ∀i l,ls i=some l->(∀a,l = .cell a->a≠L)/\FS hp l/\ ∀v,O i=some v->FD hp l v:=
  funext λj0_=>funext λhp=>propext<|and_congr Iff.rfl (forall_congr' λi=>forall_congr' λl=>forall_congr' λhl=>by rw[h i l hl])
 unfold bA;simp only[e]
noncomputable def nS(O:bV) :Sg->List So->bV
 | i::as,ov::SM=>λj=>if j=i then ov else nS O as SM j
 | _,_=>O
theorem je:∀{as:Sg}{SM:List So},j∉as->nS O as SM j=O j:=by intro as;induction as with
 | nil=>exact λj0_=>rfl
 | cons i as ih=>intro SM h;rw[am,not_or]at h;cases SM with | nil=>rfl | cons ov SM=>exact(if_neg h.1).trans<|ih h.2
theorem oM:∀{as:Sg}{SM:List So},as.Nodup->SM.length=as.length->as.map (nS O as SM)=SM:=by intro as;induction as with
 | nil=>intro SM _ l;cases SM with | nil=>rfl | cons=>exact nomatch l
 | cons i as ih=>intro SM nd l;have nd:=bh.mp nd;cases SM with
  | nil=>exact nomatch l
  | cons ov SM=>
   show(if i=i then ov else nS O as SM i)::as.map (λj=>if j=i then ov else nS O as SM j)=_
   rw[if_pos rfl];refine congrArg (ov :: ·)<|Eq.trans (dG λj hj=>if_neg λ(q:j=i)=>nd.1<|q▸hj)<|ih nd.2<|be l
theorem Az:∀{as:Sg}{SM:List So}{k i:Nat},as.Nodup->as[k]? = some i->SM[k]? = some (O i)->nS O as SM i=O i:=by intro as;induction as with
 | nil=>exact λj0_ h=>bz h
 | cons j as ih=>intro SM k i nd h e;have nd:=bh.mp nd;cases SM with
  | nil=>rfl
  | cons ov SM=>cases k with
   | zero=>obtain rfl:=bO h;exact(if_pos rfl).trans<|bO e
   | succ k=>exact(if_neg λ(q:i=j)=>nd.1<|q▸aN h).trans<|ih nd.2 h e
theorem B1{as:Sg}(h:∀i∈as,i∉gF rs) :jz (d5 Y rs ss) as=jz Y as:=dG λj hj=>by rw[qM<|h j hj]
theorem y7:∀{as:Sg}{outs:List Slot}{Y:Fm},(∀i∈as,i∉gF rs)->f6 (d5 Y rs ss) as outs=d5 (f6 Y as outs) rs ss:=by intro as;induction as with
 | nil=>intro outs Y _;cases outs <;> rfl
 | cons i as ih=>intro outs Y h;cases outs with
  | nil=>rfl
  | cons o os=>show f6 ((d5 Y rs ss).set i o) as os=d5 (f6 (Y.set i o) as os) rs ss;rw[qL<|h i aa];exact ih λj hj=>h j<|ac _ hj
inductive MP(X:Cx)(as:Sg)(J:lR) :Prop
 | no:as=[]->J=none->MP X as J
 | slf:as=X.U.as->J=X.J->J≠none->MP X as J
noncomputable def vI(rb as:Sg) :Sg:=rb.filterMap λk=>as[k]?
inductive iF(X:Cx)(O:bV)(T:List At)(as rb:Sg)(out:Se Rv×Fm)(r:Result)(s':Shared) :Prop
 | ok (vs':bV) (v:Value) :r = .ok (.ret v)->(∀i,i∉vI rb as->vs' i=O i)->PV X vs' T out v s'->iF X O T as rb out r s'
 | err (vs':bV) (e:Value) :r = .error e->(∀i,i∉vI rb as->vs' i=O i)->PX X vs' T out e s'->iF X O T as rb out r s'
theorem og{a b:List So}{c e:List Slot}(h:a.length=c.length) :jJ (a++b) (c++e)=jJ a c++jJ b e:=List.zipWith_append h
abbrev Cx.R(X:Cx)(J:lR)(O:bV)(Y:Fm)(T:List At) :List At:=bA X.L X.ls O::((match J with
 | none=>iA X.J<|X.U.as.map O
 | some _=>[])++(Sk O 0 Y++(T++X.K)))
theorem MP.out{as:Sg}(q:MP X as J)(x:gh s (X.W O Y<|A++(L++T))) :gh s (iA J (as.map O)++(A++(L++X.R J O Y T))):=by unfold Cx.W at x;rw[ah,ah]at x;cases q with
 | no h1 h2=>subst h1;subst h2;exact x.perm<|bp 7 [3,4,0,1,2,5,6] (by decide) [[bA X.L X.ls O],iA X.J<|X.U.as.map O,Sk O 0 Y,A,L,T,X.K] rfl
 | slf h1 h2 h3=>
  subst h1;subst h2;obtain⟨j,hj⟩:=Option.ne_none_iff_exists'.mp h3;have:X.R X.J O Y T=bA X.L X.ls O::(Sk O 0 Y++(T++X.K)):=by unfold Cx.R;rw[hj];rfl
  rw[this];exact x.perm<|bp 7 [1,3,4,0,2,5,6] (by decide) [[bA X.L X.ls O],iA X.J<|X.U.as.map O,Sk O 0 Y,A,L,T,X.K] rfl
theorem MP.back{as:Sg}{P A L:List At}(q:MP X as J)(l:SM.length=as.length)(hn:∀i∈as, ∀sl,Y[i]? = some sl->sl = .no)(x:gh s (P++(iA J SM++(A++(L++X.R J O Y T)))))(slf:∀x o dx,X.J=some (x,o,dx)->O X.si=some (.ref x)) :
  Fr X (nS O as SM) Y (A++(L++(P++T))) s:=by
 cases q with
 | no h1 h2=>
  subst h1;subst h2;refine⟨?_,slf⟩;show gh s (X.W O Y _)
  unfold Cx.W;rw[ah,ah,ah];exact x.perm<|bp 8 [3,4,5,1,2,0,6,7] (by decide) [P,A,L,[bA X.L X.ls O],iA X.J<|X.U.as.map O,Sk O 0 Y,T,X.K] rfl
 | slf h1 h2 h3=>
  subst h1;subst h2;obtain⟨j,hj⟩:=Option.ne_none_iff_exists'.mp h3;have:X.R X.J O Y T=bA X.L X.ls O::(Sk O 0 Y++(T++X.K)):=by unfold Cx.R;rw[hj];rfl
  rw[this]at x;have e1:bA X.L X.ls (nS O X.U.as SM)=bA X.L X.ls O:=D0 λi l hl=>je λhi=>by rw[X.asl i hi]at hl;exact bz hl
  have e2:Sk (nS O X.U.as SM) 0 Y=Sk O 0 Y:=hZ λi sl h n=>je λhi=>n<|hn _ hi sl (by rw[aX];exact h);refine⟨?_,λx o dx h=>?_⟩
  .unfold Cx.W;rw[ah,ah,ah,e1,e2,oM X.asn l];exact x.perm<|bp 8 [4,1,5,2,3,0,6,7] (by decide) [P,iA X.J SM,A,L,[bA X.L X.ls O],Sk O 0 Y,T,X.K] rfl
  .rw[je];exact slf x o dx h;exact λhi=>X.sin (by rw[h];exact λq=>bz q.symm) hi
theorem mG.congr:∀{rs:List Rv}{ws:Si},mG O rs ws->(∀i∈gF rs,vs' i=O i)->mG vs' rs ws:=by intro rs;induction rs with
 | nil=>intro ws h _;cases ws with | nil=>trivial | cons=>exact h.elim
 | cons r rs ih=>intro ws h e;cases ws with
  | nil=>exact h.elim
  | cons u ws=>cases r with
   | pl p=>cases p with | var i=>exact⟨(e i aa).trans h.1,ih h.2 λj hj=>e j<|ac _ hj⟩
   | fz d=>exact⟨trivial,ih h.2 e⟩
   | own d=>exact⟨trivial,ih h.2 e⟩
theorem t7:∀{as:Sg}{outs:List Slot}{Y:Fm},f6 Y as (outs.take as.length)=f6 Y as outs:=by intro as;induction as with
 | nil=>intro outs Y;cases outs <;> rfl
 | cons i as ih=>intro outs Y;cases outs with | nil=>rfl | cons o os=>exact ih
theorem xB{rv:Rv}{out:Se Rv×Fm}(h:bI (some (.ok rv,f)) (λr Y=>mo (gU r) λj0_=>some (.ok r,Y))=some out) :Es O rv v:=by cases rv with
 | pl p=>exact bz h
 | fz d=>trivial
 | own d=>trivial
theorem mB{as:Sg}{d:DefRec}{out:Se Rv×Fm}(hd:tb.fn[f]? = some d)(fa':qA f d J fa)(q:MP X as J)(hl:as.length=F6 J)(h:u7 X.c f as rs Y=some out)(p:mG O rs ws)(x:Fr X O Y (tE rs ws++T) s) :codeAny (model prog w) X.A (.call (.ref fa) ⟨nG J++ws,[]⟩) (iF X O T as (tG f) out) s:=by
 have hg:=pZ h;refine aR (cE hg.2) λss h1=>?_;have nd:=Cv h1.2;refine aR (cE nd.2) λo hc=>?_;have nda:=gS.mp nd.1;have dis:∀i∈as,i∉gF rs:=λi h1 h2=>nda.2.2 i h1 i h2 rfl;have y:=Fr.takes nda.1<|Qw h1.1 nda.2.1 p x;rw[B1 dis]at y;have la:(as.map O).length=(jz Y as).length:=by rw[ai];exact(ai _).symm
 have ls:∀{rs:List Rv}{ss:List Slot},fG Y rs=some ss->ss.length=rs.length:=by intro rs;induction rs with
  | nil=>intro ss h;obtain rfl:=bO (show some []=some ss from h);rfl
  | cons r rs ih=>intro ss h;obtain⟨sl,ss',rfl,_,h2⟩:=iP h;exact congrArg (· + 1)<|ih h2
 have sat:=q.out y.sat;rw[<- ah (jJ (as.map O) _),<- og la]at sat;refine n9 (X.cs f _ o.1 o.2 hc.1 d hd J fa fa' X.A _ (as.map O) ws s (kj<|X.dep<|bK.mpr hg.1) (af (aq _ 7)<|X.un<|bK.mpr hg.1) (X.hh<|bK.mpr hg.1) (X.frok aa λp hp=>ac _<|aE _<|aE _<|aE _ hp) (by rw[ai];exact hl) (by rw[aj,<- la,ls h1.1,p.len]) sat) λr s' P=>?_;obtain⟨SM,l1,e1,l2,R⟩:=P;rw[la,List.drop_left]at l2 R;rw[<- la,ai]at l2;rw[ai]at l1;rw[DW hc.2];have lo:(o.2.take as.length).length=as.length:=by rw[eY,l2];exact Nat.min_eq_left<|aq _ _
 have bk:∀{P:List At},gh s' (P++(iA J SM++(jJ (SM++gn ss ws) o.2++X.R J O (clr (d5 Y rs ss) as) T)))->Fr X (nS O as SM) (f9 (f6 Y as o.2) rs ss<|o.2.drop as.length) (P++T) s':=λ{P} z=>by rw[<- List.take_append_drop as.length o.2,og (by rw[lo];exact l1),ah<|jJ SM _]at z;have z:=q.back l1 (λi hi sl e=>wY hi e) z x.slf;have z:=Fr.puts (as:=as) (outs:=o.2.take as.length) nda.1 lo (by rw[oM nda.1 l1];exact z);rw[y7 dis,t7]at z;exact back (N2 h1.1) nda.2.1 (p.congr λi hi=>je λq=>dis i q hi) (by rw[lP,l2,b3]) z
 have ag:∀i,i∉vI (tG f) as->nS O as SM i=O i:=λi hi=>by
  by_cases q:i∈as
  .obtain⟨k,hk⟩:=List.getElem?_of_mem q;refine Az nda.1 hk<|(e1 k λm=>hi<|List.mem_filterMap.mpr ⟨k,m,hk⟩).trans ?_;rw[bn,hk];rfl
  .exact je q
 cases R with
 | ok rv v e1 e2 z=>rw[e1]at hc |-;exact .ok _ v e2 ag ⟨rv,rfl,xB hc.2,bk z⟩
 | err nm a P e1 e2 z=>rw[e1];exact .err _ _ e2 ag ⟨nm,a,P,rfl,rfl,bk (P:=[_]) z⟩
theorem iF.wp{Q E:Sr}{as rb:Sg}{out:Se Rv×Fm}(h:codeAny (model prog w) X.A (.call (.ref fa) ⟨ws,[]⟩) (iF X O T as rb out) s)
  (k:∀vs' v s',(∀i,i∉vI rb as->vs' i=O i)->PV X vs' T out v s'->Q v s') (k':∀vs' e s',(∀i,i∉vI rb as->vs' i=O i)->PX X vs' T out e s'->E e s') :wpAny (model prog w) X.A (call (.ref fa) ws) Q E s:=
 wpAny_call (n9 h λr s' P=>by cases P with
  | ok vs' v e p q=>subst e;exact k vs' v s' p q
  | err vs' e e' q p=>subst e';exact k' vs' e s' q p)
theorem iF.wp0{as rb:Sg}{out:Se Rv×Fm}(r0:vI rb as=[])(h:codeAny (model prog w) X.A (.call (.ref fa) ⟨ws,[]⟩) (iF X O T as rb out) s) :wpAny (model prog w) X.A (call (.ref fa) ws) (PV X O T out) (PX X O T out) s:=
 have k:∀{vs':bV},(∀i,i∉vI rb as->vs' i=O i)->vs'=O:=λe=>funext λi=>e i (by rw[r0];exact λh=>nomatch h)
 iF.wp h (λvs' v s' e q=>k e▸q) λvs' v s' e q=>k e▸q
theorem rV{as:Sg}(h:tG f=[]) :vI (tG f) as=[]:=by rw[h];rfl
theorem Fv{d:DefRec}{p pos:Pos}(hf:tb.fn[f]? = some d/\f<tb.m0)(hg:X.U.isG d.name)(F:F2 (λe x=>CE X.U e x/\SE X (eval e X.env) (ev X.c x)) es S) :SE X (eval (.Call (.Name d.name p) es [] pos) X.env) (ev X.c<|.call f S):=by
 intro O T s Y out h x;obtain⟨a,o,hm,ho,⟨pm,code,doc,hd⟩,fa⟩:=qA.of X hf;have r0:vI (tG f) []=[]:=rV<|if_pos hf.2;refine fB rfl<|fq x.base hg hm<|jB (o:=o) (fd:=Calls.docDef d.name d.params d.body d.scope pm code doc)<|oz F ?_;refine nF (P:=[]) h (λu e=>vG F O T s Y u e x) λrs bQ ws aM kX h p bE=>⟨⟨bE.base a o ho,hd⟩,?_⟩
 exact iF.wp0 r0<|mB hf.1 fa (.no rfl rfl) rfl h p bE
end
noncomputable def ro:Bi->Value
 | .len=>.builtin "len" | .isi _=>.builtin "isinstance" | .sum=>.builtin "sum" | .dict=>.type "dict" | .abs=>.builtin "abs" | .int=>.type "int" | .tuple=>.type "tuple" | .list=>.type "list" | .str=>.type "str"
 | _=>.builtin "len"
theorem jr(b:Bi) :gN b∈mC:=by cases b <;> (dsimp only[gN];decide)
theorem kT(b:Bi) :gN b≠("__name__" :Str):=by cases b <;> (dsimp only [gN]; decide)
theorem ot(b:Bi) :bootBuiltins (gN b)=some (ro b):=by cases b <;> (dsimp only[gN,ro];boot_fast)
theorem Iu(t:Ty) :bootBuiltins (fL t)=some (.type<|fL t):=by cases t <;> (dsimp only[fL];boot_fast)
theorem boot_zip:bootBuiltins "zip" = some (.type "zip"):=by boot_fast
theorem boot_dict:bootBuiltins "dict" = some (.type "dict"):=by boot_fast
theorem boot_enumerate:bootBuiltins "enumerate" = some (.type "enumerate"):=by boot_fast
theorem DU:bootBuiltins "reversed" = some (.type "reversed"):=by boot_fast
theorem boot_range:bootBuiltins "range" = some (.type "range"):=by boot_fast
theorem vr(t:Ty) :(fL t:Str)∈mC:=by cases t <;> (dsimp only[fL];decide)
theorem yB(t:Ty) :(fL t:Str)≠("__name__" :Str):=by cases t <;> (dsimp only [fL]; decide)
section
variable {X:Cx}{O:bV}{Y:Fm}{T P:List At}{s:Shared}{v:Value}{pos p p':Pos}{e a b:Expr}{x z:Ex}{out:Se Rv×Fm}{Z:Ss}
theorem Cx.big(X:Cx){W:List At}(y:bD Z s W) :3<s.heap.objs.size:=m5 X.gd.g λo j0_ j1_ q=>br<|y.base _ _ q.1
theorem KO{A:Around}{b:Bi}{d:D}{r:Rv}{a:Value}{E:Sr}(hb:b.one=true)(hh:b.loops=true->A.handled=none)(G:3<s.heap.objs.size)(zl:∀b,Z b-> ∃o,s.heap.get? b=some o)(he:pI b [d]=some r)(ra:eX s.heap Z a d) :wpAny (model prog w) A (call (ro b) [a]) (Op Z s r) E s:=by cases b with
 | len=>rw[DY]at he;cases hl:Gn d with
  | none=>rw[hl]at he;exact bz he
  | some n=>rw[hl]at he;exact Er (bO he).symm<|KL hl ra
 | isi t=>cases hb
 | sum=>cases d with
  | list S=>exact aR (aT.mp he) λe z=>z.2▸KH (hh rfl) z.1 ra
  | _=>exact bz he
 | dict=>exact FP G (hh rfl) he ra zl
 | abs=>
  cases d <;> first | exact bz he | skip
  exact Er (bO he).symm<|KP ra
 | int=>
  cases d <;> first | exact bz he | skip
  exact Er (bO he).symm<|FN ra
 | tuple=>cases d with
  | list S=>exact Er (bO he).symm<|yV ra
  | tuple S=>exact Er (bO he).symm<|yU ra
  | _=>exact bz he
 | str=>cases d with
  | int i=>cases i with
   | ofNat n=>exact KI he ra
   | negSucc n=>exact bz he
  | _=>exact bz he
 | list=>
  cases d <;> first | exact bz he | skip
  exact Er (bO he).symm<|Bp ra
 | _=>cases hb
theorem tu{A:Around}{b:Bi}{args:List (Bool×Sem Value)}{Q:Sr}{E:Sr}(hplain:args.any (·.1)=false)
  (h:wpAny (model prog w) A (evalArgs (ro b) true args []) (λa aM=>wpAny (model prog w) A (call (ro b) ([]++a.pos) a.kw) Q E aM) E s) :wpAny (model prog w) A (callWith pos (ro b) [] args []) Q E s:=by
 cases b with
 | int=>exact bF (first:=[]) hplain h
 | tuple=>exact bF (first:=[]) hplain h
 | list=>exact bF (first:=[]) hplain h
 | str=>exact bF (first:=[]) hplain h
 | dict=>exact bF (first:=[]) hplain h
 | _=>exact Calls.callWith_builtin (first:=[]) hplain h
theorem Pp{c:gR}{f:Sb->Option Rv}(h:ad (evs c [x]) f Y=some out) :un (ev c x) (λd=>f [d]) Y=some out:=by
 have h:bI (bI (ev c x Y) λr Y=>some (.ok [r],Y)) (λrs Y=>mo (nU Y rs) λV=>Bt Y<|f V)=some out:=h;show bI (ev c x Y) _=_
 generalize ev c x Y=o at h |-;rcases o with _ | ⟨_ | r,f⟩
 .exact h
 .exact h
 .exact aR (cE h) λV z=>aR (Ba z.1) λd z'=>by show mo _ _=_;rw[z'.1,<- z.2,z'.2];rfl
theorem Q5{c:gR}{f:Sb->Option Rv}(h:ad (evs c [x,z]) f Y=some out) :bin (ev c x) (ev c z) (λd e=>f [d,e]) Y=some out:=by
 have h:bI (bI (ev c x Y) λr Y=>bI (bI (ev c z Y) λr' Y=>some (.ok [r'],Y)) λrs Y=>some (.ok (r::rs),Y)) (λrs Y=>mo (nU Y rs) λV=>Bt Y<|f V)=some out:=h;show bI (ev c x Y) _=_
 generalize ev c x Y=o at h |-;rcases o with _ | ⟨_ | r,f⟩
 .exact h
 .exact h
 .show bI (ev c z f) _=_
  have h:bI (bI (bI (ev c z f) λr' Y=>some (.ok [r'],Y)) λrs Y=>some (.ok (r::rs),Y)) _=some out:=h;generalize ev c z f=o at h |-;rcases o with _ | ⟨_ | r',f'⟩
  .exact h
  .exact h
  .exact aR (cE h) λV z=>kL (Ku z.1) λd e z'=>by show mo _ _=_;rw[z'.1];show mo _ _=_;rw[z'.2.1,<- z.2,z'.2.2];rfl
theorem Kn{b:Bi}(hb:b.one=true)(hg:X.U.isG (gN b))(hc:CE X.U e x)(H:SE X (eval e X.env) (ev X.c x)) :SE X (eval (.Call (.Name (gN b) p) [e] [] pos) X.env) (ev X.c<|.bi b [x]):=λO T s Y out h y=>
 fB (args:=[e]) rfl (e9 y.base hg (jr b) (kT b) (ot b)<|tu (by rw[hc.star X.env];rfl) (by rw[hc.star X.env];exact bS<|bG<|l7 (λeK h' a k=>cD<|fO (KO hb (λq=>X.hh<|bK.mpr λq'=>(pZ h).1<|ao.mpr ⟨q',q⟩) (X.big eK) eK.zl h' a) k) H (Pp (pZ h).2) y λj0_ j1_ p=>p))
theorem Kj{t:Ty}(hg:X.U.isG "isinstance")(hg':X.U.isG (fL t))(hc:CE X.U e x)(H:SE X (eval e X.env) (ev X.c x)) :SE X (eval (.Call (.Name "isinstance" p) [e,.Name (fL t) p'] [] pos) X.env) (ev X.c (.bi (.isi t) [x])):=λO T s Y out h y=>
 fB (args:=[e,.Name (fL t) p']) rfl (e9 y.base hg (jr<|.isi t) (kT<|.isi t) (ot<|.isi t)<|tu (b:=.isi t) (by rw[hc.star X.env];rfl) (by rw[hc.star X.env];exact bS<|bG<|l7 (λeK h a k=>bG<|e9 eK.base hg' (vr t) (yB t) (Iu t)<|cD<|fO (KM t a) λu s' p=>k u s'<|bO h▸p) H (Pp (pZ h).2) y λj0_ j1_ p=>p))
theorem xt{h:Heap}(G:3<h.objs.size) :(h.objs.size==sysModules)=false:=by rw[iQ];intro e;rw[e]at G;exact absurd G (by decide)
theorem newD{n:Nat}(X:Cx){W:List At}(y:bD Z s W) :Op Z s (.own (.dict [])) (.ref s.heap.objs.size) {s with heap:=s.heap.push {cls:=.type "dict",data:=.dict #[]}}:=
 ⟨_,s.toks,rfl,pK _,.own (ya _)<|.dict (SN:=[]) ⟨xt<|X.big y,.new _⟩ (ba _) .nil⟩
theorem Fr.newD(x:Fr X O Y T s) :Fr X O Y (oA (some (.ref s.heap.objs.size)) (.dict []) :: T) {s with heap:=s.heap.push {cls:=.type "dict",data:=.dict #[]}}:=⟨n5 (P:=[_]) (aR x.sat λZ y=>(Mv.newD (n:=0) X y).sat y),x.slf⟩
theorem A4:SE X (eval (.Dict [] [] pos) X.env) (ev X.c<|.bi .dict0 []):=λO T s Y out h x=>by have h:Bt Y (some<|.own<|.dict [])=some out:=(pZ h).2;obtain⟨q,hq,rfl⟩:=r5 h;exact bO hq▸wpAny_Dict_empty ⟨_,rfl,trivial,x.newD⟩
theorem Fq(hg:X.U.isG "dict")(hg':X.U.isG "zip")(ca:CE X.U a x)(cb:CE X.U b z)(Ha:SE X (eval a X.env) (ev X.c x))(Hb:SE X (eval b X.env) (ev X.c z)) :SE X (eval (.Call (.Name "dict" p) [.Call (.Name "zip" p') [a,b] [] e.pos] [] pos) X.env) (ev X.c (.bi .dzip [x,z])):=by intro O T s Y out h y;refine fB (args:=[.Call (.Name "zip" p') [a,b] [] e.pos]) rfl (e9 y.base hg (by decide) (by decide) boot_dict ?_);refine bF (first:=[]) rfl (bS (bG ?_));refine fB (args:=[a,b]) rfl (e9 y.base hg' (by decide) (by decide) boot_zip ?_);refine bF (first:=[]) (by rw [ca.star X.env,cb.star X.env]; rfl) ?_;rw [ca.star X.env,cb.star X.env];have hh:=X.hh (bK.mpr λq=>(pZ h).1 (ao.mpr ⟨q,rfl⟩));refine bS (bG (fO (jQ ?_ Ha Hb (Q5 (pZ h).2) y λj0_ j1_ p=>p) λv s h=>bG h));exact λeK h a b k=>cD (fO (FO (X.big eK) hh h a b eK.zl) λu s' p=>cD (fO p k))
end
section
variable {X:Cx}{O:bV}{Y:Fm}{T P:List At}{s s':Shared}{v:Value}{pos p p':Pos}{ea eb ec:Expr}{xa xb xc:Ex}{out:Se Rv×Fm}{Z:Ss}{whole:Sem Value}{ga gb gc:Fm->dc Rv}
theorem Op.bv{b:Bool}(p:Op Z s (.fz<|.bool b) v s') :v = .bool b:=by obtain⟨_,_,_,_,q⟩:=p;cases q with
 | old R=>exact eX.bool<|.inl R
 | new e e' R=>exact eX.bool<|.inl R
theorem Fr.post(x:Fr X O Y T s)(y:bD Z s (X.W O Y T))(o:Op Z s r v s') :Fr X O Y (tA r v++T) s':=⟨n5<|o.sat y,x.slf⟩
theorem Fr.own{d e:D}{tk:Nat}(x:Fr X O Y (oA (some<|.ref a) d::T) s)(y:bD Z s (X.W O Y (oA (some<|.ref a) d::T)))(kp:∀b o,b≠a->s.heap.get? b=some o->h'.get? b=some o)(q:eR h' Z a e) :Fr X O Y (oA (some<|.ref a) e::T) {s with heap:=h',toks:=tk}:=⟨n5 (P:=[_])<|bD.own (y.perm<|g8 (P:=[_]) ..) kp q,x.slf⟩
theorem o7{o p:CmpOp}{b e:Expr}(h:behindInMarks p e=false) :lastMarks [o,p] [b,e]=false:=by simpa [lastMarks] using h
theorem Fu{o p:Cm}(Ha:SE X (eval ea X.env) (ev X.c xa))(Hb:SE X (eval eb X.env) (ev X.c xb))(Hc:SE X (eval ec X.env) (ev X.c xc))(hm:behindInMarks (iO p) ec=false) :SE X (eval (.Compare ea [iO o,iO p] [eb,ec] pos) X.env) (ev X.c<|.cmp2 o p xa xb xc):=by intro O T s Y out h x;refine Compare_chain (im (P:=[]) h (λu e=>Ha O T s Y u e x) λr bQ v aM h Bh bE=>?_)<|o7 hm;refine chain_link<|im (P:=tA r v) h (λu e=>Hb O _ aM bQ u e bE) λr' aP v' bC h lY cB=>?_;refine aR (cE h) λd z1=>aR (cE z1.2) λe z2=>aR (cE z2.2) λt z3=>aR cB.sat λZ y=>?_;refine fO (oZ z3.1 ((In.hd Bh).tl.dat y<|iT z1.1) ((In.hd lY).dat y<|iT z2.1) X.cl) λu gJ Bl=>?_;have il:=cB.post y Bl;obtain rfl:=Bl.bv;refine rr ?_;have h:=z3.2;cases t with
 | false=>rw[if_neg (by decide)]at h |-;exact bO h▸PV.dr (PV.dr ⟨_,rfl,trivial,il⟩)
 | true=>rw[if_pos rfl]at h |-;have il:=il.drop;rw[<- ah]at il;refine chain_last<|im h (λu e=>Hc O _ gJ aP u e il) λr3 i4 v3 vx h rW As=>?_;refine aR (cE h) λd3 z4=>aR (xM z4.2) λb hq=>aR As.sat λZ y=>?_;have i2:In (tA r3 v3++(tA r' v'++tA r v++T)) O r' v':=In.tl ⟨lY,λj0_ hp=>aC _<|aC _ hp⟩;exact hq.2▸fO (oZ hq.1 (i2.dat y<|iT z2.1) ((In.hd rW).dat y<|iT z4.1) X.cl) λu s' o=>PV.dr<|PV.dr ⟨_,rfl,trivial,As.post y o⟩
theorem Kd{lo hi:Option Expr}(Ha:SE X (eval ea X.env) ga)(Hl:SE X (evalPart lo X.env) gb)(Hh:SE X (evalPart hi X.env) gc) :SE X (eval (.Subscript ea (.Slice lo hi none p) pos) X.env) (Rl ga gb gc vE):=by intro O T s Y out h x;refine Subscript_<|im (P:=[]) h (λu e=>Ha O T s Y u e x) λr bQ v aM h Bh bE=>?_;refine wpAny_Slice<|im (P:=tA r v) h (λu e=>Hl O _ aM bQ u e bE) λr2 aP v2 bC h lY cB=>?_;rw[<- ah]at cB;refine im h (λu e=>Hh O _ bC aP u e cB) λr3 i4 v3 gJ h rW il=>mK (evalPart_none _) ?_;refine aR (cE h) λd z1=>aR (cE z1.2) λl z2=>aR (cE z2.2) λg z3=>aR il.sat λZ y=>?_;obtain⟨q,hq,rfl⟩:=r5 z3.2;have i1:In (tA r3 v3++(tA r2 v2++tA r v++T)) O r v:=In.tl ⟨Bh,λj0_ hp=>aC _<|aE _ hp⟩;have i2:In (tA r3 v3++(tA r2 v2++tA r v++T)) O r2 v2:=In.tl ⟨lY,λj0_ hp=>aC _<|aC _ hp⟩;exact kL (Bo (A:=X.A) (E:=PX X O T (.ok q,i4)) hq (i1.dat y z1.1) (i2.dat y z2.1)<|(In.hd rW).dat y z3.1) λT' id Q=>tail_any Q.1 Q.2.1 (fO Q.2.2 λu s' o=>PV.dr<|PV.dr ⟨q,rfl,o.rvp,(il.post y o).sat,il.slf⟩) rfl
def NX(env:Env)(po:Pos) :List (Option Expr)->Sn->List (Sem Value×Sem Value)
 | some k::ks,v::O=>(eval k env,do let x <- eval v env;standAt po;pure x)::NX env po ks O
 | _,_=>[]
theorem qJ(env:Env)(po:Pos) :∀{kes:List (Option Expr)}{ks:Sd}(vals:Sn),KS kes ks->((evalEachOpt kes env).zip ((evalEach vals env).map λv=>do let x <- v;standAt po;pure x)=(NX env po kes vals).map λp=>(some p.1,p.2))/\((NX env po kes vals).length=min ks.length vals.length):=by intro kes ks vals h;induction h generalizing vals with
 | nil=>exact⟨rfl,by cases vals <;> exact(Nat.zero_min _).symm⟩
 | @cons k kk p es ks t ih=>cases vals with
  | nil=>exact⟨rfl,(Nat.min_zero _).symm⟩
  | cons v vals=>exact⟨congrArg (_ :: ·) (ih vals).1,(congrArg (· + 1) (ih vals).2).trans (Nat.add_min_add_right _ _ 1).symm⟩
inductive RH(X:Cx)(O:bV)(T:List At)(ks:Sd)(out:Se (List Rv)×Fm)(prs:List (Value×Value))(s':Shared) :Prop
 | mk (ws:Si) :PQ X O T out ws s'->Carries (strKind prog w) prs (ks.zip ws)->RH X O T ks out prs s'
theorem xH{ks:Sd}(H:KS kes ks) :∀{es:Sn}{S:List Ex},F2 (λe x=>CE X.U e x/\SE X (eval e X.env) (ev X.c x)) es S->ks.length=S.length-> ∀(O:bV)(T:List At)(s:Shared)(Y:Fm)(out:Se (List Rv)×Fm),evs X.c S Y=some out->Fr X O Y T s->
  wpAny (model prog w) X.A (evalPairs<|NX X.env po kes es) (RH X O T ks out) (PX X O T out) s:=by
 induction H with
 | nil=>intro es S F hl;cases S with
  | cons=>exact nomatch hl
  | nil=>cases es with
   | cons=>exact F.elim
   | nil=>exact λO T s Y out h x=>bO h▸evalPairs_nil ⟨[],⟨[],rfl,trivial,x⟩,trivial⟩
 | @cons k kk kp kes ks t ih=>intro es S F hl;cases S with
  | nil=>exact nomatch hl
  | cons x S=>cases es with
   | nil=>exact F.elim
   | cons e es=>
    intro O T s Y out h y;refine evalPairs_cons<|wpAny_Constant_str (k:=kk) (pos:=kp) ?_;refine ae<|im (P:=[]) h (λu e=>F.1.2 O T {s with toks:=s.toks+1} Y u e y.toks) λr bQ v aM h p bE=>ae<|wpAny_standAt<|au ?_;rcases dD h with⟨e',f,hm,rfl⟩ | ⟨rs,f,hm,h⟩
    .exact aK (ih F.2 (be hl) O _ aM bQ _ hm bE.frzT) (λws s' p=>by obtain⟨_,⟨_,q,_⟩,_⟩:=p;exact on q) λj0_ j1_ p=>p.to
    .refine aK (ih F.2 (be hl) O _ aM bQ _ hm bE.frzT) (λprs s' q=>?_) λj0_ j1_ p=>p.no;obtain⟨ws,⟨rs',e1,p',cB⟩,C⟩:=q;obtain rfl:=ky e1;exact bO h▸⟨v::ws,⟨r::rs,rfl,⟨p,p'⟩,by show Fr X O f ((tE rs ws++tA (frz r) v)++T) s';rw[ah];exact cB⟩,strKind_is prog w k _,rfl,C⟩
theorem ME{P:Expr->Ex->Prop}(F:F2 P es S) :es.length=S.length:=F2.rec' (M:=λes S=>es.length=S.length) rfl (λj0_ j1_ e=>congrArg (· + 1) e) F
theorem yN:∀{ks:Sd}{O:Si}{V:Sb},Q9 ks->RepAll h Z O V->RepKV h Z (ks.zip O) (uX ks V):=by intro ks;induction ks with
 | nil=>intro _ _ _ _;exact .nil
 | cons k ks ih=>intro O V ok R;cases R with
  | nil=>exact .nil
  | cons r R=>exact .cons (ok k<|.head _).1 (ok k<|.head _).2 r<|ih (λx hx=>ok x<|.tail _ hx) R
theorem Fs{ks:Sd}{vals:Sn}(hk:KS kes ks)(F:F2 (λe x=>CE X.U e x/\SE X (eval e X.env) (ev X.c x)) vals S)(nd:ks.Nodup/\Q9 ks)(hl:ks.length=S.length)(h15:ks≠ []/\ks.length<=15) :SE X (eval (.Dict kes vals pos) X.env) (ar (evs X.c S) λV=>.own<|.dict<|uX ks V):=by
 intro O T s Y out h x;have hml:(NX X.env pos kes vals).length=ks.length:=by rw[(qJ X.env pos vals hk).2,ME F,<- hl,Nat.min_self]
 refine wpAny_Dict_pairs (knd:=strKind prog w) (qJ X.env pos vals hk).1 (λq=>h15.1<|mL (by rw[<- hml,q];rfl)) (by rw[hml];exact h15.2) ?_;have M8:=x.newD;rcases dD h with⟨e',f,hm,rfl⟩ | ⟨rs,f,hm,h⟩
 .exact aK (xH (po:=pos) hk F hl O _ _ Y _ hm M8) (λprs s' p=>by obtain⟨_,⟨_,q,_⟩,_⟩:=p;exact on q) λj0_ j1_ p=>PX.to (P:=[_]) p
 .refine aK (xH (po:=pos) hk F hl O _ _ Y _ hm M8) (λprs aM p=>?_) λe s' p=>p.no;obtain⟨ws,⟨rs',q,p,bE⟩,C⟩:=p;obtain rfl:=ky q;refine aR (xM h) λV hq=>hq.2▸?_;have bE:=bE.perm (T':=oA (some<|.ref s.heap.objs.size) (.dict [])::(tE rs ws++T)) List.perm_middle;obtain⟨Z,y⟩:=bE.sat;obtain⟨a,ea,wa⟩:=y.ok _<|em aa;obtain rfl:=iS ea;cases wa with
  | @dict SN _ dS _ kv=>
   have e0:SN=[]:=mL kv.length;subst e0;refine⟨ks.zip ws,C,dS.2,λh' hD sb=>?_⟩;have hn:((ks.zip ws).map (·.1)).Nodup:=by rw[List.map_fst_zip (by rw[hl,<- p.len,sR hm];exact aQ _)];exact nd.1
   rw[merged_nil_of_nodup _ hn]at hD;have kp:∀b o,b≠s.heap.objs.size->aM.heap.get? b=some o->h'.get? b=some o:=λb o q e=>sb.extBut b o q e;have kz:∀b o,Z b->aM.heap.get? b=some o->h'.get? b=some o:=λb o z e=>kp b o (λq=>y.nz _ (em aa) b (by rw[q];rfl) z) e;exact PV.dr (P:=tE rs ws) ⟨_,rfl,trivial,bE.own y kp<|.dict ⟨dS.1,hD⟩ (by rw[List.length_zip];exact af (ny _ _)<|af h15.2 (by decide))<|yN nd.2<|(jf y (λp hp=>em<|ac _<|aC _ hp) p.len hq.1).mono kz λj0_ z=>z⟩
end
section
variable {X:Cx}{O:bV}{Y:Fm}{T P:List At}{s s':Shared}{v:Value}{pos p p':Pos}{out:Se Rv×Fm}{Z:Ss}{i j:Nat}
theorem tW(F:F2 (λe x=>CE X.U e x/\SE X (eval e X.env) (ev X.c x)) es S) :(backTo pos<|starEach es X.env).all (λx=>!x.1)=true:=
 F2.rec' (M:=λes j0_=>(backTo pos<|starEach es X.env).all (λx=>!x.1)=true) rfl (λ{e es x S} H _ ih=>by rw[H.1.star X.env es];exact ao.mpr ⟨rfl,ih⟩) F
theorem rq{Q:Sr}(hbase:attributeBase o name X.env (eval o X.env)=eval o X.env)(F:F2 (λe x=>CE X.U e x/\SE X (eval e X.env) (ev X.c x)) es S)(hn:es.length<=28)(hline:(apos.endLine==pos.line)=true)
  (h:wpAny (model prog w) X.A (eval o X.env) (λov aM=> ∀pl,wpAny (model prog w) X.A (getMethod ov name pl) (λfv bC=>wpAny (model prog w) X.A (callWith pos fv.1 fv.2 (backTo pos<|starEach es X.env) []) Q E bC) E aM) E s) :
  wpAny (model prog w) X.A (eval (.Call (.Attribute o name apos) es [] pos) X.env) Q E s:=by
 rw[arm_eval_Call,hbase];refine ae<|fO h λov aM h₁=>ae<|wpAny_standAt ?_;have hform:methodCallForm (es.length+([] :List Keyword).length) (backTo pos<|starEach es X.env) (backToKw pos<|keywordEach [] X.env)=true:=by unfold methodCallForm;exact Er (tW F)<|ak (show es.length<30 from aL hn (by decide))
 have hpos:methodCallPos true o X.env apos pos=pure pos:=by unfold methodCallPos;simp[hline]
 unfold methodCall;rw[hform];exact ae<|d6<|fO (h₁ _) λfv bC eO=>ae<|mK hpos eO
theorem xV{d:DefRec}{px dx:Addr}{Q:Sr}(hJ:X.J=some (px,ob,dx))(hf:tb.fn[f]? = some d/\tb.m0<=f/\kf f=X.U.k)(F:F2 (λe x=>CE X.U e x/\SE X (eval e X.env) (ev X.c x)) es S)(x:Fr X O Y T s)
  (K:wpAny (model prog w) X.A (spliced<|backTo pos<|starEach es X.env) (λws s'=>(∀a o,B.get? a=some o->s'.heap.get? a=some o)/\ ∀fa,qA f d X.J fa->wpAny (model prog w) X.A (call (.ref fa) (.ref px::ws)) Q E s') E s) :
  wpAny (model prog w) X.A (getMethod (.ref px) d.name pl) (λfv bC=>wpAny (model prog w) X.A (callWith pos fv.1 fv.2 (backTo pos<|starEach es X.env) []) Q E bC) E s:=by
 have I:=X.inj _ _ _ hJ;obtain⟨cr,C,j1,j2,j3⟩:=I.cls;obtain⟨C',N,mN,hC',P,_,hme⟩:=X.gd.pl _ cr j1;rw[j2]at hC';cases hC';obtain⟨hmem,hnn,z,hz⟩:=hme f d hf.2 hf.1;obtain⟨fa,o,pm,cd,doc,h1,h2,h3,h4,h5⟩:=P.meths _ hmem;obtain⟨Z,y⟩:=x.sat;have mem:nA px ob dx (X.U.as.map O)∈X.W O Y T:=by refine ac _<|aC _ ?_;rw[hJ];exact aa
 obtain⟨⟨_,ho⟩,mA,⟨hns,hw⟩,_⟩:=y.ok _ mem;have hsh:mA d.name=none:=by cases e:mA d.name with
  | none=>rfl
  | some v=>exact absurd (hw d.name (by rw[e];exact λq=>nomatch q)) hnn
 obtain ⟨nm,qn,bs,sn,sub,col,ddd,k0,k1,k2,k3,k5,hCo⟩:=(P.cls.keeps y.base).obj;refine method_of hCo (P.cls.keeps y.base).ns (P.quiet _ (aC _ (by decide))) (P.quiet _ (aC _ (by decide))) h1 (y.base _ _ h2) h3 hz ⟨ob,ho,j3,I.nc,.inr ⟨dx,I.dic,I.ne,hns⟩⟩ hsh ?_;refine jB (o:=o) (fd:=methDef d.name (cr.name ++ "." ++ d.name) d.params d.body d.scope pm cd doc) (oz F (fO K λws s' k=>⟨⟨k.1 fa o h2,h4⟩,?_⟩));exact k.2 fa ⟨⟨λq=>by rw [hJ] at q; exact bz q.symm,λq=>absurd hf.2.1 (pR.mpr q)⟩,hf.2.2.symm▸X.inj,o,_,pm,cd,doc,h2,h4,h5⟩
theorem A3{d:DefRec}{x:Str}(hf:tb.fn[f]? = some d/\tb.m0<=f/\kf f = X.U.k/\tb.rb[f - tb.m0]? = some [])(hx:x = X.U.sn/\(x == ("__debug__" :Str)) = false/\X.U.ats≠ [])(hl:(ap.endLine == pos.line) = true)
  (F:F2 (λe x=>CE X.U e x/\SE X (eval e X.env) (ev X.c x)) es S) (hn:es.length<=28) :SE X (eval (.Call (.Attribute (.Name x p) d.name ap) es [] pos) X.env) (ev X.c<|.mcall f X.U.as S):=by
 intro O T s Y out h y;have hn':=(X.ins hx.2.2).1;rcases hJ:X.J with _ | ⟨px,ob,dx⟩
 .exact absurd hJ hn'
 have hr:vI (tG f) X.U.as=[]:=rV (by unfold tG;rw[if_neg<|bM.mpr hf.2.1,hf.2.2.2];rfl);refine rq rfl F hn hl<|iW y hJ hx.1 hx.2.2 hx.2.1 λpl=>xV hJ ⟨hf.1,hf.2.1,hf.2.2.1⟩ F y ?_;refine nF (P:=[]) h (λu e=>vG F O T s Y u e y) λrs bQ ws aM kX h p bE=>⟨bE.base,λfa fa'=>?_⟩
 have q:=mB hf.1 fa' (.slf rfl rfl hn') (by rw[hJ];exact(X.an hn').1) h p bE;rw[hJ]at q;exact iF.wp0 hr q
theorem gY{d:D}(h:iU Y (.var i)=some d) :Y[i]? = some (.own d):=by
 have h:(match Y[i]? with
  | some (.own d)=>some d
  | _=>none)=some d:=h
 generalize Y[i]? = o at h |-;rcases o with _ | _ | _ | _ | _ <;> first | exact bz h | exact congrArg (some <| Slot.own ·)<|bO h
theorem oX(hx:PE U o i) :attributeBase o nm env (eval o env)=eval o env:=by cases hx with
 | nm hx=>rfl
 | atr hx=>rfl
inductive pN(X:Cx)(O:bV)(Y:Fm)(T:List At)(s:Shared)(i:Nat)(d:D) :Prop
 | mk (a:Addr) (Z:Ss) :O i=some (.ref a)->eR s.heap Z a d->bD Z s (X.W O (Y.set i .no) (oA (some<|.ref a) d::T))->Fr X O (Y.set i .no) (oA (some<|.ref a) d::T) s->pN X O Y T s i d
theorem Fr.ownIn{d:D}(x:Fr X O Y T s)(h:Y[i]? = some (.own d)) :pN X O Y T s i d:=by have y:=x.take h;obtain⟨Z,z⟩:=y.sat;obtain⟨a,e,q⟩:=z.ok _<|em aa;rw[e]at y z;exact⟨a,Z,e,q,z,y⟩
theorem pN.kz{d:D}{a:Addr}{h':Heap}(z:bD Z s (X.W O (Y.set i .no) (oA (some<|.ref a) d::T)))(kp:∀b o,b≠a->s.heap.get? b=some o->h'.get? b=some o) :∀b o,Z b->s.heap.get? b=some o->h'.get? b=some o:=λb o zb e=>kp b o (λq=>z.nz _ (em aa) b (by rw[q];rfl) zb) e
theorem Fr.ownSet{d e:D}{tk:Nat}(ei:O i=some (.ref a))(x:Fr X O (Y.set i .no) (oA (some<|.ref a) d::T) s)(y:bD Z s (X.W O (Y.set i .no) (oA (some<|.ref a) d::T)))(kp:∀b o,b≠a->s.heap.get? b=some o->h'.get? b=some o)(q:eR h' Z a e) :Fr X O (Y.set i<|.own e) T {s with heap:=h',toks:=tk}:=
 Fr.set (by rw[ei];exact x.own y kp q)
theorem wL:∀l:List α,l.eraseIdx (l.length - 1)=l.dropLast:=by intro l;induction l with
 | nil=>rfl
 | cons a l ih=>cases l with
  | nil=>rfl
  | cons b t=>exact congrArg (a :: ·) ih
theorem RepAll.last{d:D}(r:RepAll h Z ws V)(e:V.getLast? = some d) :∃v,ws[ws.length - 1]? = some v/\dW h Z v d:=by rw[List.getLast?_eq_getElem?]at e;exact Er r.length<|r.get e
theorem RepAll.dropLast(r:RepAll h Z ws V) :RepAll h Z ws.dropLast V.dropLast:=Er List.dropLast_eq_take<|Er List.dropLast_eq_take<|Er r.length<|r.take _
theorem FH{c:gR}(h:ev c (.pop<|.var i) Y=some out) :∃S d,Y[i]? = some (.own<|.list S)/\S.getLast? = some d/\out=(.ok<|.fz d,Y.set i<|.own<|.list S.dropLast):=by refine aR (cE h) λo z=>aR (cE z.2) λq z1=>aR (cE z1.2) λx z2=>?_;cases o with
 | list S=>have e:=z1.1;unfold Bj at e;dsimp only at e;cases g:S.getLast? with
  | none=>rw[g]at e;exact bz e
  | some d=>rw[g]at e;obtain rfl:=bO e;obtain rfl:=bO z2.1;exact⟨S,d,gY z.1,g,(bO z2.2).symm⟩
 | _=>exact bz z1.1
theorem Ke(hx:PE X.U o i)(hl:(ap.endLine == pos.line) = true) :SE X (eval (.Call (.Attribute o "pop" ap) [] [] pos) X.env) (ev X.c (.pop (.var i))):=by intro O T s Y out h x;obtain⟨S,d,u1,u2,rfl⟩:=FH h;obtain⟨a,Z,ei,W,y,x'⟩:=x.ownIn u1;refine wpAny_Call_method0_late (oX hx) hl (jj x hx ei rfl λtk=>?_);cases W with
 | @list ws m V hil hz RA=>
  obtain ⟨v,U1,U2⟩:=RA.last u2;refine ⟨"list","list.pop",PySem.F.plainAttrs_list,PySem.F.slot_list_pop,PySem.F.type_list_pop,⟨_,hil,rfl⟩,(λb e=>by cases e; exact ⟨_,hil,rfl⟩),?_⟩;refine PySem.P.pop_list (s:= {s with toks:=tk}) (y:=v) hil (by rw [ax,gO]; exact U1) ?_ (by rw [ax,<- dR]; exact hz);have up:=IsL.update hil λS=>S.eraseIdxIfInBounds (ws.toArray.size - 1);generalize hH:s.heap.update a (Obj.mapSeq λS=>S.eraseIdxIfInBounds (ws.toArray.size - 1))=H at up;have kp:∀b o,b≠a->s.heap.get? b=some o->H.get? b=some o:=λb o q e=>(hH▸fW ..:Heap.SameBut a s.heap H).extBut b o q e;have kz:=pN.kz y kp;have hv':ws.toArray.eraseIdxIfInBounds (ws.toArray.size - 1)=ws.dropLast.toArray:=by rw[ax];unfold Array.eraseIdxIfInBounds;rw[dif_pos (show ws.length - 1<ws.toArray.size from((av.mp U1).1)),List.eraseIdx_toArray,wL]
  rw[hv']at up;have z:bD Z s (X.W O (Y.set i .no) (oA (some<|.ref a) (.list S)::(zA (some v) d::T))):=(y.val U2).perm<|bp 7 [1,2,3,4,0,5,6] (by decide) [[zA (some v) d],[bA X.L X.ls O],iA X.J<|X.U.as.map O,Sk O 0<|Y.set i .no,[oA (some<|.ref a)<|.list S],T,X.K] rfl;exact .z<|Fr.ownSet (s:=s) (tk:=tk) ei ⟨⟨Z,z⟩,x.slf⟩ z kp<|.list up (af (by rw[List.length_dropLast];exact Nat.sub_le _ _) hz) (RA.mono kz λj0_ z=>z).dropLast
theorem Kl{x:Str}{k:Nat}{b:Bool}(hx:X.U.isV x i)(hl:(ap.endLine == pos.line) = true) :SE X (eval (.Call (.Attribute (.Name x p) "count" ap) [.Constant (.bool b) k kp] [] pos) X.env) (ev X.c (.cnt i b)):=λO T s Y out h y=>
 wpAny_Call_method1_late rfl hl rfl (l7 (ga:=ev X.c<|.pl<|.var i) (f:=λd=>DI d b) (λ{Z s d q v} _ h a k=>by cases d with
  | list S=>obtain ⟨bs,hb,rfl⟩:=aT.mp h;obtain ⟨l,ws,n,rfl,hil,hn,R⟩:=a.list;exact ⟨"list","list.count",PySem.F.plainAttrs_list,PySem.F.slot_list_count,PySem.F.type_list_count,⟨_,hil,rfl⟩,(λa e=>by cases e; exact ⟨_,hil,rfl⟩),Calls.callWith_builtin (first:=[.ref l]) rfl (bS (bG (wpAny_Constant_bool (cD (fO (Br hb a (.inl (.bool _))) k)))))⟩
  | _=>exact bz h) (A1<|.nm hx) h y λj0_ j1_ p=>p)
theorem jn{d:D}(h:gU r=some d) :tA (frz r) v=[zA (some v) d]:=by cases r with
 | fz d=>obtain rfl:=bO h;rfl
 | own d=>obtain rfl:=bO h;rfl
 | pl _=>exact bz h
theorem jL(h:oO o=some V) :o=some (.tab V):=by rcases o with _ | ⟨_ | _ | _ | _⟩ <;> first | exact bz h | exact congrArg (λx=>some<|Slot.tab x)<|bO h
open Classical in
theorem Cx.room(X:Cx) :(i6 prog w).room X.A.in1:=by
 have:=X.cl;show X.A.units+1+8<cLine
 exact aL (aG (by decide:9<=66) _) this
theorem dW.keyRef{k:D}{v:Value}(o:iD k=true)(r:dW h Z v k) :∃a,v = .ref a:=by cases k with
 | tuple S=>obtain⟨l,_,_,e,_⟩:=eX.tuple<|.inl r;exact⟨l,e⟩
 | _=>cases o
theorem bD.tab(y:bD Z s (X.W O Y T))(h:Y[i]? = some (.tab V)) :∃a,O i=some (.ref a)/\TabAt s.heap Z a V:=y.ok _<|uq h
theorem xl{c:gR}(h:ev c (.var j) Y=some (.ok r,bQ))(e:bQ[i]? = some (.tab V)) :Y[i]? = some (.tab V):=by
 rcases xm h with⟨d,hd,q⟩ | ⟨d,hd,q⟩
 .obtain⟨_,rfl⟩:=ie q;exact e
 .obtain⟨_,rfl⟩:=ie q;rw[rD]at e;split at e
  .split at e
   .exact Slot.noConfusion (bO e)
   .exact bz e
  .exact e
open Classical in
theorem ul{x z a:Str}{ap px:Pos}{Q:Sr}(hx:X.U.isV x j)(ha:X.U.isA z a i)(h:ev X.c (.tin i<|.var j) Y=some out)(y:Fr X O Y T s)(k:∀v s',PV X O T out v s'->Q v s') :
  wpAny (model prog w) X.A (eval (.Name x px) X.env) (λv aM=>wpAny (model prog w) X.A (eval (.Attribute (.Name z p) a ap) X.env) (λv' bC=>wpAny (model prog w) X.A (compareOp .NotIn v v') Q (PX X O T out) bC) (PX X O T out) aM) (PX X O T out) s:=by
 refine im (P:=[]) h (λu e=>t9 (.nm hx) O T s Y u e y) λr bQ v aM h p bE=>?_;refine aR (cE h) λk' z1=>aR (cE z1.2) λV z2=>?_;obtain⟨ko,rfl⟩:=gQ z2.2;have bE:=bE.frzT;rw[jn z1.1]at bE;obtain⟨Z,eK⟩:=bE.sat;have R1:dW aM.heap Z v k':=.dz eK<|em aa;obtain⟨b,rfl⟩:=R1.keyRef ko;obtain⟨t,ei,⟨S,sy,dm,ln,kt⟩⟩:=eK.tab<|jL z2.1;refine md bE ha ei rfl λtk=>?_;refine wpAny_notIn_heap (knd:=i6 prog w) (s:= {aM with toks:=tk}) X.room (dW.isKey ko R1) sy dm ?_;have e:(!(atKey S k').isSome)=(dP k' V).isNone:=by cases kt.get ko with
  | no a b=>rw[a,b];rfl
  | yes p d a b _=>rw[a,b];rfl
 rw[e];exact k _ _<|Fr.z (s:=aM) (Fr.drop (P:=[_]) bE) λj0_=>.bool _
theorem Kc{x z a:Str}{ap px:Pos}(hx:X.U.isV x j)(ha:X.U.isA z a i) :SE X (eval (.Compare (.Name x px) [.NotIn] [.Attribute (.Name z p) a ap] pos) X.env) (ev X.c<|.tin i<|.var j):=λO T s Y out h y=>wpAny_Compare1 (ul hx ha h y λj0_ j1_ p=>p) rfl
theorem JP{x z a:Str}{ap px:Pos}(hx:X.U.isV x j)(ha:X.U.isA z a i) :ST X (isTrue (.Compare (.Name x px) [.NotIn] [.Attribute (.Name z p) a ap] pos) X.env whole) (ev X.c<|.tin i<|.var j):=λO T s Y out h hd y=>wpAny_isTrue_Compare1 (ul hx ha h y λj0_ j1_ p=>p.truth hd) rfl
open Classical in
theorem Fk{x z a:Str}{ap px:Pos}(hx:X.U.isV x j)(ha:X.U.isA z a i) :SE X (eval (.Subscript (.Attribute (.Name z p) a ap) (.Name x px) pos) X.env) (ev X.c<|.tget i<|.var j):=by
 intro O T s Y out h y;rcases dD h with⟨e,f,hm,_⟩ | ⟨r,bQ,hm,h'⟩
 .rcases xm hm with⟨_,_,q⟩ | ⟨_,_,q⟩ <;> exact on (ie q).1
 refine aR (cE h') λk' z1=>aR (cE z1.2) λV z2=>?_;have hf:=jL z2.1;have h0:=xl hm hf;obtain⟨Z,P6⟩:=y.sat;obtain⟨t,ei,_⟩:=P6.tab h0;refine Subscript_<|md y ha ei rfl λtk=>?_;refine im (P:=[]) h (λu e=>t9 (.nm hx) O T _ Y u e y.toks) λr' QK v aM h'' p bE=>?_;refine aR (cE h'') λk' z1=>aR (cE z1.2) λV z2=>?_;have ko:=(Cv z2.2).1;refine aR (xM (Cv z2.2).2) λd hq=>hq.2▸?_;have bE:=bE.frzT;rw[jn z1.1]at bE;obtain⟨Z,eK⟩:=bE.sat;have R1:dW aM.heap Z v k':=.dz eK<|em aa;obtain⟨b,rfl⟩:=R1.keyRef ko;obtain⟨t',ei',⟨S,sy,dm,ln,kt⟩⟩:=eK.tab<|jL z2.1;obtain rfl:=iS<|ei.symm.trans ei';cases kt.get ko with
 | no a b=>rw[a]at hq;exact bz hq.1
 | yes u d' a b rp=>obtain rfl:=bO<|hq.1.symm.trans a;exact tail_any dm.typeIs slot_dict_getitem.lookup (wpAny_getItem_heap (knd:=i6 prog w) X.room (dW.isKey ko R1) dm b<|PV.dr (P:=[_])<|.z<|Fr.toks ⟨n5 (P:=[_]) ⟨Z,eK.val rp⟩,bE.slf⟩)<|CE.isPlain (CQ.var hx:CE X.U (.Name x px) (.var j)) _ _
end
theorem tM{n k:Nat}(h:k<=n) :n+1 - (k+1)<n+1 - k:=Nat.sub_lt_sub_left (eF h)<|dZ k
noncomputable def I9:List String:=["enumerate","zip","dict_itemiterator","dict_reverseitemiterator","odict_iterator","itertools.zip_longest","itertools.pairwise"]
theorem RT{It:Addr}{v:Value}{T:String}{Q:Unit->Shared->Prop}(he:s.heap.get? It=some o)(hc:o.cls = .type T)(hT:I9.contains T=false)(h:Q () s) :wpAny (model prog w) A (letOwnedTupleGo g (.ref It) v) Q E s:=by
 have key:wpAny (model prog w) A (do
   let (.ref r,.ref a):=(Value.ref It,v) | return
   let o <- load r
   match o.cls,o.data with
   | .type n,.fields O=>
    if ["enumerate","zip","dict_itemiterator","dict_reverseitemiterator","odict_iterator","itertools.zip_longest","itertools.pairwise"].contains n && O[0]? == some (rawInt a) then
     rule "for.unpacks-the-owned-tuple"
     updateField r 0 .none
   | _,_=>pure ()) Q E s:=by
  cases v with
  | ref a=>refine ae<|wpAny_load he ?_;obtain⟨c,d,dt,sl⟩:=o;cases hc;cases dt with
   | fields O=>dsimp only;exact Er (if_neg (by refine Er (show (["enumerate","zip","dict_itemiterator","dict_reverseitemiterator","odict_iterator","itertools.zip_longest","itertools.pairwise"].contains T) = false from hT) ?_; rw [Bool.false_and]; exact gy)) (au h)
   | _=>exact au h
  | _=>exact au h
 cases g with
 | Tuple es k p=>exact key
 | List es p=>exact key
 | _=>exact au h
inductive MC where | one(v:Value) | two(x z:Value)
inductive xh(h:Heap)(Z:Ss) :MC->D->Prop
 | one {v:Value} {d:D} (r:dW h Z v d) :xh h Z (.one v) d
 | two {x z:Value} {a b:D} (r:dW h Z x a) (q:dW h Z z b) :xh h Z (.two x z) (.tuple [a,b])
noncomputable def MC.is(h h':Heap) :MC->Value->Prop
 | .one u,v=>v=u
 | .two x z,v=> ∃T,v = .ref T/\h.get? T=none/\IsPair h' T x z
theorem xh.mono{d:D}(r:xh h Z m d)(k:∀a o,Z a->h.get? a=some o->h'.get? a=some o)(z:∀a,Z a->Z' a) :xh h' Z' m d:=by cases r with
 | one r=>exact .one<|r.mono k z
 | two r q=>exact .two (r.mono k z)<|q.mono k z
noncomputable def MV(it:kZ)(g:Expr) :Prop:=it.pairs=true-> ∃es k p,g = .Tuple es k p
structure Wk(A:Around)(it:kZ)(SJ:Sb) where
 I:Addr
 fp:List Addr
 wr:List Addr
 P:Nat->MC->Prop
 St:Nat->Heap->Prop
 sub:∀b∈wr,b∈fp
 frame:∀i h h',St i h->(∀b∈fp, ∀o,h.get? b=some o->h'.get? b=some o)->St i h'
 lv:∀i h,St i h-> ∀b∈fp, ∃o,h.get? b=some o
 item:∀i (s:Shared) (g:Expr) (Q:Sr) (E:Sr),MV it g->i<SJ.length->St i s.heap->
  (∀m v h' tk,P i m->m.is s.heap h' v->St (i+1) h'->(∀b o,b∉wr->s.heap.get? b=some o->h'.get? b=some o)->Q v {s with heap:=h',toks:=tk})->
  wpAny (model prog w) A (pyNext<|.ref I) (λo aM=> ∃v,o=some v/\wpAny (model prog w) A (letOwnedTupleGo g (.ref I) v) (λj0_ bC=>Q v bC) E aM) E s
 done:∀(s:Shared)(Q:So->Shared->Prop)(E:Sr),St SJ.length s.heap->
  (∀h' tk,(∀b o,b∉wr->s.heap.get? b=some o->h'.get? b=some o)->Q none {s with heap:=h',toks:=tk})->wpAny (model prog w) A (pyNext<|.ref I) Q E s
 self:∀i (s:Shared) (Q:Sr) (E:Sr),St i s.heap->Q (.ref I) s->wpAny (model prog w) A (pyIter<|.ref I) Q E s
noncomputable def qe(P:Nat->Value->Prop)(i:Nat)(m:MC) :Prop:= ∃v,m = .one v/\P i v
def Wk.of{A:Around}{it:kZ}{I:Addr}{SJ:Sb}{fp wr:List Addr}{P:Nat->Value->Prop}{St:Nat->Heap->Prop}(wk:Walks prog w A I fp wr SJ.length P St)(lv:∀i h,St i h-> ∀b∈fp, ∃o,h.get? b=some o)
  (cls:∀i h,St i h-> ∃o T,h.get? I=some o/\o.cls = .type T/\I9.contains T=false) :Wk A it SJ where
 I:=I
 fp:=fp
 wr:=wr
 P:=qe P
 St:=St
 sub:=wk.sub
 frame:=wk.frame
 lv:=lv
 item:=λi s g Q E j0_ hi st hQ=>wk.item i s _ E hi st λv h' tk pv st' kp=>let ⟨_,_,e,c,n⟩:=cls _ _ st';⟨v,rfl,RT (s:= {s with heap:=h',toks:=tk}) e c n<|hQ (.one v) v h' tk ⟨v,rfl,pv⟩ rfl st' kp⟩
 done:=wk.done
 self:=wk.self
def wA{A:Around}{it:kZ}{SJ:Sb}(W:Wk A it SJ)(ow:List Addr)(k:Nat) :At where
 own:=λa=>a∈ow
 Y:=λj0_=>False
 ok:=λZ h=>W.St k h/\(∀b∈W.fp,Z b\/b∈ow)/\(∀b∈ow, ∃o,h.get? b=some o)/\(∀b∈W.wr,b∈ow)/\ ∀i m,i<SJ.length->W.P i m-> ∃d,SJ[i]? = some d/\xh h Z m d
 st:=λzz k x=>have k':∀a o,_->_->_:=λa o z e=>(k a o e z).elim id λf=>f.1.elim;⟨W.frame _ _ _ x.1 λb hb o e=>k' b o (x.2.1 b hb) e,λb hb=>(x.2.1 b hb).imp (zz b) id,λb hb=>aR (x.2.2.1 b hb) λo e=>⟨o,k' b o (.inr hb) e⟩,x.2.2.2.1,λi m hi p=>aR (x.2.2.2.2 i m hi p) λd q=>⟨d,q.1,q.2.mono (λa o z e=>k' a o (.inl z) e) zz⟩⟩
 lv:=λx w=>x.2.2.1 _ w
 fn:=λj0_ h=>h.elim
section
variable {X:Cx}{O:bV}{Y:Fm}{T P:List At}{s s':Shared}{v:Value}{Z:Ss}{it:kZ}{SJ:Sb}{ow:List Addr}{k:Nat}
theorem Fr.next{W:Wk X.A it SJ}{d:D}{g:Expr}{Q:So->Shared->Prop}{Qv:Sr}{E:Sr}(x:Fr X O Y (wA W ow k::T) s)(gk:MV it g)(hd:SJ[k]? = some d)
  (hQ:∀v aM,wpAny (model prog w) X.A (letOwnedTupleGo g (.ref W.I) v) (λj0_ bC=>Qv v bC) E aM->Q (some v) aM)
  (h:∀v s',Fr X O Y (zA (some v) d::(wA W ow (k+1)::T)) s'->Qv v s') :wpAny (model prog w) X.A (pyNext<|.ref W.I) Q E s:=by
 have hk:=(av.mp hd).1;obtain⟨Z,y⟩:=x.sat;have y:bD Z s (wA W ow k::X.W O Y T):=y.perm<|g8 (P:=[_]) ..;have ok:=y.ok _ aa;refine aK (W.item k s g Qv E gk hk ok.1 λm v h' tk hm hv hst kp=>?_) (λo aM p=>aR p λv p=>Er p.1<|hQ v aM p.2) λj0_ j1_ x=>x;have kp':∀a o,s.heap.get? a=some o-> ¬(wA W ow k).own a->h'.get? a=some o:=λa o e n=>kp a o (λq=>n<|ok.2.2.2.1 a q) e;have kz:∀a o,Z a->s.heap.get? a=some o->h'.get? a=some o:=λa o z e=>kp' a o e λq=>y.nz _ aa a q z;have lv:∀b∈ow, ∃o,h'.get? b=some o:=λb hb=>by
  by_cases q:b∈W.wr
  .exact W.lv _ _ hst b (W.sub b q)
  .exact aR (ok.2.2.1 b hb) λo e=>⟨o,kp b o q e⟩
 have re:∀{Z':Ss},(∀a,Z a->Z' a)->(wA W ow<|k+1).ok Z' h':=λzz=>⟨hst,λb hb=>(ok.2.1 b hb).imp (zz b) id,lv,ok.2.2.2.1,λi m hi p=>aR (ok.2.2.2.2 i m hi p) λd q=>⟨d,q.1,q.2.mono kz zz⟩⟩
 have fin:∀{Z':Ss},(∀a,Z a->Z' a)->(∀a,Z' a->Z a\/s.heap.get? a=none/\ ∃o,h'.get? a=some o)->dW h' Z' v d->Fr X O Y (zA (some v) d::(wA W ow (k+1)::T)) {s with heap:=h',toks:=tk}:=λ{Z'} zz zn r=>by refine⟨n5 (P:=[_,_]) ⟨Z',bD.val (bD.one (tk:=tk) y kp' zz (λa z=>(zn a z).imp id λu=>⟨.inr u.1,u.2⟩) (re zz) λa q=>⟨.inl q,λz=>(zn a z).elim (y.nz _ aa a q) λu=>y.fresh aa q u.1⟩) r⟩,x.slf⟩
 refine aR (ok.2.2.2.2 k m hk hm) λd' q=>?_;obtain rfl:=bO<|hd.symm.trans q.1;have r:=q.2;cases r with
 | one r=>subst hv;exact h v _<|fin (λj0_ z=>z) (λj0_ z=>.inl z)<|r.mono kz λj0_ z=>z
 | two ra rb=>obtain⟨T',rfl,nT,hT⟩:=hv;exact h _ _<|fin (Z':=λb=>Z b\/b=T') (λj0_ z=>.inl z) (λa z=>z.imp id λq=>by subst q;exact⟨nT,_,hT⟩)<|.tuple (.inr rfl) hT (by show 2<=Sz;decide)<|.cons (ra.mono kz λj0_ z=>.inl z)<|.cons (rb.mono kz λj0_ z=>.inl z) .nil
theorem Fr.done{W:Wk X.A it SJ}{Q:So->Shared->Prop}(x:Fr X O Y (wA W ow SJ.length::T) s)(h:∀s',Fr X O Y T s'->Q none s') :wpAny (model prog w) X.A (pyNext<|.ref W.I) Q E s:=by obtain⟨Z,y⟩:=x.sat;have y:bD Z s (wA W ow SJ.length::X.W O Y T):=y.perm<|g8 (P:=[_]) ..;have ok:=y.ok _ aa;exact W.done s Q E ok.1 λh' tk kp=>h _ ⟨gh.drop (P:=[eA]) ⟨Z,bD.one (tk:=tk) y (λa o e n=>kp a o (λq=>n<|ok.2.2.2.1 a q) e) (λj0_ z=>z) (λj0_ z=>.inl z) trivial λj0_ h=>h.elim⟩,x.slf⟩
inductive PI(X:Cx)(O:bV)(T:List At)(it:kZ)(out:Se (List Rv)×Fm)(itv:Value)(s':Shared) :Prop
 | mk (rs:List Rv) (V SJ:Sb) (W:Wk X.A it SJ) (ow:List Addr) :out.1 = .ok rs->gE rs=some V->di it V=some SJ->SJ.length<=Sz->itv = .ref W.I->Fr X O out.2 (wA W ow 0::T) s'->PI X O T it out itv s'
noncomputable def SI(X:Cx)(m:Sem Value)(it:kZ)(g:Fm->dc (List Rv)) :Prop:=X.A.handled=none-> ∀(O:bV)(T:List At)(s:Shared)(Y:Fm)(out:Se (List Rv)×Fm),g Y=some out->(∀rs,out.1 = .ok rs-> ∃V SJ,gE rs=some V/\di it V=some SJ)->Fr X O Y T s->
 wpAny (model prog w) X.A m (λx aM=>wpAny (model prog w) X.A (pyIter x) (PI X O T it out) (PX X O T out) aM) (PX X O T out) s
theorem Fr.wk{tk:Nat}(W:Wk X.A it SJ)(ow:List Addr)(x:Fr X O Y (P++T) s)(y:bD Z s (X.W O Y<|P++T))(kp:∀a o,s.heap.get? a=some o->h'.get? a=some o)(hst:W.St 0 h')(hfp:∀b∈W.fp,Z b\/b∈ow)(how:∀b∈ow,s.heap.get? b=none/\b∈W.fp)(QG:∀b∈W.wr,b∈ow)
  (hit:∀i m,i<SJ.length->W.P i m-> ∃d,SJ[i]? = some d/\xh s.heap Z m d) :Fr X O Y (wA W ow 0::T) {s with heap:=h',toks:=tk}:=
 Fr.map (P:=wA W ow 0::P) (P':=[wA W ow 0]) ⟨n5 (P:=[_]) ⟨Z,y.nw (tk:=tk) kp (λj0_ z=>z) (λj0_ z=>.inl z) ⟨hst,hfp,λb hb=>W.lv _ _ hst b (how b hb).2,QG,λi m hi p=>aR (hit i m hi p) λd q=>⟨d,q.1,q.2.mono (λa o j0_ e=>kp a o e) λj0_ z=>z⟩⟩ λa q=>⟨(how a q).1,λz=>aR (y.zl a z) λo e=>by rw[(how a q).1]at e;exact bz e⟩⟩,x.slf⟩ λR z=>z.sub<|List.Sublist.cons_cons _<|b8 _ _
end
theorem NY{P:Ss}{a b c d e f g:Addr}(h1:P a)(h2:P b)(h3:P c)(h4:P d)(h5:P e)(h6:P f)(h7:P g) :∀x∈ [a,b,c,d,e,f,g],P x:=λx hx=>by simp only[am,bc,fh]at hx;rcases hx with rfl | rfl | rfl | rfl | rfl | rfl | rfl <;> assumption
theorem Qt{P:Ss}{a b c d e:Addr}(h1:P a)(h2:P b)(h3:P c)(h4:P d)(h5:P e) :∀x∈ [a,b,c,d,e],P x:=λx hx=>by simp only[am,bc,fh]at hx;rcases hx with rfl | rfl | rfl | rfl | rfl <;> assumption
theorem NZ{P:Ss}{a b c d:Addr}(h1:P a)(h2:P b)(h3:P c)(h4:P d) :∀x∈ [a,b,c,d],P x:=λx hx=>by simp only[am,bc,fh]at hx;rcases hx with rfl | rfl | rfl | rfl <;> assumption
theorem N0{P:Ss}{a b c:Addr}(h1:P a)(h2:P b)(h3:P c) :∀x∈ [a,b,c],P x:=λx hx=>by simp only[am,bc,fh]at hx;rcases hx with rfl | rfl | rfl <;> assumption
theorem su{P:Ss}{a b:Addr}(h1:P a)(h2:P b) :∀x∈ [a,b],P x:=λx hx=>by simp only[am,bc,fh]at hx;rcases hx with rfl | rfl <;> assumption
theorem lb{P:Ss}(h1:P a) :∀x∈ [a],P x:=λx hx=>aJ.mp hx▸h1
section
variable {X:Cx}{O:bV}{Y:Fm}{T:List At}{s:Shared}{v:Value}{Z:Ss}{pos p:Pos}{e e1 e2:Expr}{x x1 x2:Ex}{out:Se (List Rv)×Fm}
theorem Hz{c:gR}(h:evs c [x] Y=some out) :bI (ev c x Y) (λr Y=>some (.ok [r],Y))=some out:=by
 have h:bI (ev c x Y) (λr Y=>bI (some (.ok [],Y)) λrs Y=>some (.ok (r::rs),Y))=some out:=h;rcases he:ev c x Y with _ | ⟨_ | r,f⟩
 .rw[he]at h;exact h
 .rw[he]at h;exact h
 .rw[he]at h;exact h
theorem Fi{R:Sr}(H:SE X m (ev X.c x))(h:evs X.c [x] Y=some out)(hv:∀rs,out.1 = .ok rs-> ∃V SJ,gE rs=some V/\di it V=some SJ)(y:Fr X O Y T s)
  (K:∀r d SJ bQ v aM Z,out=(.ok [r],bQ)->gE [r]=some [d]->di it [d]=some SJ->Fr X O bQ ([zA (some v) d]++T) aM->bD Z aM (X.W O bQ<|[zA (some v) d]++T)->dW aM.heap Z v d->R v aM) :wpAny (model prog w) X.A m R (PX X O T out) s:=
 im (P:=[]) (Hz h) (λu e=>H O T s Y u e y) λr bQ v aM h p bE=>by obtain rfl:=bO h;refine kL (hv _ rfl) λV SJ q=>aR (Kq q.1) λd z=>?_;obtain rfl:=z.2;have bE:=bE.frzT;rw[jn z.1]at bE;exact aR bE.sat λZ eK=>K r d SJ bQ v aM Z rfl q.1 q.2 bE eK<|.dz eK<|em aa
theorem J7(H:SE X (eval e X.env) (ev X.c x)) :SI X (eval e X.env) .seq (evs X.c [x]):=λhh O T s Y out h hv y=>Fi H h hv y λr d SJ bQ v aM Z eo er ei bE eK vf=>by
 subst eo;have lt:∀a o,aM.heap.get? a=some o->a≠aM.heap.objs.size:=λa o e q=>by rw[q,ya]at e;exact bz e
 have nn:=ya aM.heap;cases d with
 | list S=>
  obtain rfl:=bO ei;cases vf with
  | @list a ws _ m za hl hn Rs=>
  have hw:=Walks.list (prog:=prog) (w:=w) (A:=X.A) hh aM.heap.objs.size a (lt _ _ hl) ws.toArray;rw[show ws.toArray.size=S.length from(ax ..).trans Rs.length]at hw;refine rt hl.isList ⟨_,_,S,.of hw (λi h st=>su (aR st.1 λo q=>⟨o,q.1⟩)<|aR st.2 λo q=>⟨o,q.1⟩) (λi h st=>aR st.1 λo q=>⟨o,_,q.1,q.2.1,by decide⟩),[aM.heap.objs.size],rfl,er,rfl,Rs.length▸hn,rfl,
   Fr.wk _ _ bE eK (pK _) ⟨⟨_,bl _ rfl,rfl,rfl⟩,(IsL.push hl _).isList⟩ (su (.inr<|.head _)<|.inl za) (lb ⟨nn,.head _⟩) (lb<|.head _) λi m j0_ p=>aR p λv p=>?_⟩
  obtain rfl:=p.1;exact aR (Rs.getV (by simpa using p.2)) λd q=>⟨d,q.1,.one q.2⟩
 | tuple S=>
  obtain rfl:=bO ei;cases vf with
  | @tuple a ws _ m za hl hn Rs=>
  have hw:=Walks.tuple (prog:=prog) (w:=w) (A:=X.A) hh aM.heap.objs.size a (lt _ _ hl) ws.toArray;rw[show ws.toArray.size=S.length from(ax ..).trans Rs.length]at hw;refine wpAny_pyIter_tuple (⟨_,hl,rfl,_,rfl⟩) ⟨_,_,S,.of hw (λi h st=>su (aR st.1 λo q=>⟨o,q.1⟩)<|aR st.2 λo q=>⟨o,q.1⟩) (λi h st=>aR st.1 λo q=>⟨o,_,q.1,q.2.1,by decide⟩),[aM.heap.objs.size],rfl,er,rfl,Rs.length▸hn,rfl,
   Fr.wk _ _ bE eK (pK _) ⟨⟨_,bl _ rfl,rfl,rfl⟩,⟨_,pK _ _ _ hl,rfl,_,rfl⟩⟩ (su (.inr<|.head _)<|.inl za) (lb ⟨nn,.head _⟩) (lb<|.head _) λi m j0_ p=>aR p λv p=>?_⟩
  obtain rfl:=p.1;exact aR (Rs.getV (by simpa using p.2)) λd q=>⟨d,q.1,.one q.2⟩
 | _=>exact bz ei
theorem AV(hg:X.U.isG "range")(hc:CE X.U e x)(H:SE X (eval e X.env) (ev X.c x)) :SI X (eval (.Call (.Name "range" p) [e] [] pos) X.env) .range (evs X.c [x]):=by intro hh O T s Y out h hv y;refine fB (args:=[e]) rfl (e9 y.base hg (by decide) (by decide) boot_range (bF (first:=[]) (by rw[hc.star X.env];rfl) ?_));rw[hc.star X.env];refine bS (bG (Fi H h hv y λr d SJ bQ v aM Z eo er ei bE eK vf=>?_));subst eo;cases d with
 | int i=>
  obtain⟨t,rfl⟩:=eX.int (.inl vf);have hit:(if -1000000000<=i/\i<=(Sz:Int) then some (ji 0 i.toNat) else none)=some _:=ei;have z:=Cv hit;obtain rfl:=bO z.2;refine cD (call_range_1 ?_);refine wpAny_pyIter_range (IsRange.new ..) (small_one (Ln [] (.i (.g (.c 4611686018427387904)) (.c 0)) [] rfl) (Ln [] (.i (.p 1 (.c 0)) (.c 4611686018427387904)) [] rfl) (by omega) (Li [i] (.i (.p 1 .x) (.c 4611686018427387904)) [Gi .x (.n (.c 16777216))] rfl (z.1).2)) ?_;let bC:Shared:= {aM with heap:=aM.heap.push {cls:=.type "range",data:=.fields #[.int 0 aM.toks,.int i t,.int 1 (aM.toks + 1)]},toks:=aM.toks + 1 + 1}
  have e0:Builtin.Range.rangeSize 0 i 1=(i.toNat:Int):=by rw[rangeSize_nat];simp
  have hlen:(ji 0 i.toNat).length=i.toNat:=by simp[ji]
  have cB:Fr X O bQ ([zA (some<|.int i t)<|.int i]++T) bC:=Fr.push (P':=[]) bE λj0_ z=>z.grow<|pK _;obtain⟨Z,jC⟩:=cB.sat;refine⟨[r],_,ji 0 i.toNat,.of (fp:=[bC.heap.objs.size]) (by rw[hlen];exact Walks.range (prog:=prog) (w:=w) (A:=X.A) hh bC.heap.objs.size 0 1 i.toNat) (λj h st=>lb ⟨_,st⟩) (λi h st=>⟨_,_,st,rfl,by decide⟩),[bC.heap.objs.size],rfl,er,ei,by rw[hlen];exact Int.toNat_le.mpr z.1.2,rfl,
   Fr.wk _ _ cB jC (pK _) ?_ (lb<|.inr<|.head _) (lb ⟨ya _,.head _⟩) (lb<|.head _) λj m hj p=>aR p λv p=>?_⟩
  .show (bC.heap.push _).get? bC.heap.objs.size = some {cls:=.type "range_iterator",data:=.fields #[rawInt (0 + ((0:Nat) :Int) * 1),rawInt ((i.toNat:Int) - ((0:Nat) :Int)),rawInt 1]}
   rw[show(0:Int)+((0:Nat) :Int)*1=0 from by simp,show((i.toNat:Int) - ((0:Nat) :Int))=Builtin.Range.rangeSize 0 i 1 from by rw[e0];simp];exact bl _ rfl
  .obtain⟨rfl,u,rfl⟩:=p;rw[hlen]at hj;refine⟨.int<|0+(j:Int),by simp[ji,hj],.one ?_⟩;rw[Int.mul_one];exact .int _ u
 | _=>exact bz ei
theorem J8(hg:X.U.isG "reversed")(hc:CE X.U e x)(H:SE X (eval e X.env) (ev X.c x)) :SI X (eval (.Call (.Name "reversed" p) [e] [] pos) X.env) .rev (evs X.c [x]):=by intro hh O T s Y out h hv y;refine fB (args:=[e]) rfl (e9 y.base hg (by decide) (by decide) DU (bF (first:=[]) (by rw[hc.star X.env];rfl) ?_));rw[hc.star X.env];refine bS (bG (Fi H h hv y λr d SJ bQ v aM Z eo er ei bE eK vf=>?_));subst eo;cases d with
 | tuple S=>
  obtain rfl:=bO ei;cases vf with
  | @tuple a ws _ m za hl hn Rs=>
  have hsz:=(ax ..).trans Rs.length;have hlen:S.reverse.length=ws.toArray.size:=by rw[eN,hsz]
  have hz:(ws.toArray.size:Int)<2 ^ 63:=by
   have:ws.toArray.size<=16777216:=by exact Er ax hn
   omega
  refine cD<|Ik (SJ:=ws.toArray) ⟨_,hl,rfl,_,rfl⟩ hz λtk=>?_;refine Rv.iter (bl _ rfl) ?_;refine⟨[r],_,S.reverse,Wk.of (P:=λi v=>ws.toArray[ws.toArray.size - 1 - i]? = some v) (St:=λi h=>i<=ws.toArray.size/\tB h aM.heap.objs.size a ((ws.toArray.size:Int) - 1 - (i:Int))/\IsTup h a ws.toArray) (by rw[hlen];exact Walks.rv (prog:=prog) (w:=w) (A:=X.A) hh aM.heap.objs.size a (bW<|br hl) ws.toArray hz) (λi h st=>su ⟨_,st.2.1⟩<|aR st.2.2 λo q=>⟨o,q.1⟩) (λi h st=>⟨_,_,st.2.1,rfl,by decide⟩),[aM.heap.objs.size],rfl,er,rfl,by rw[hlen,ax];exact hn,rfl,
   Fr.wk (s:=aM) _ _ bE eK (pK _) ⟨ba _,?_,⟨_,pK _ _ _ hl,rfl,_,rfl⟩⟩ (su (.inr<|.head _)<|.inl za) (lb ⟨ya _,.head _⟩) (lb<|.head _) λi m hi p=>aR p λv p=>?_⟩
  .exact Er (show(ws.toArray.size:Int) - 1 - ((0:Nat) :Int)=(ws.toArray.size:Int) - 1 from Int.sub_zero _) (bl _ rfl)
  .obtain rfl:=p.1;rw[eN]at hi;rw[List.getElem?_reverse hi];have p:=p.2;rw[hsz]at p;exact aR (Rs.getV (by simpa using p)) λd q=>⟨d,q.1,.one q.2⟩
 | _=>exact bz ei
theorem Ew:∀S zs i,i<(gT S zs).length-> ∃a b,(gT S zs)[i]? = some (.tuple [a,b])/\S[i]? = some a/\zs[i]? = some b:=by intro S;induction S with
 | nil=>intro zs i hi;cases hi
 | cons a S ih=>intro zs i hi;cases zs with
  | nil=>cases hi
  | cons b zs=>cases i with
   | zero=>exact⟨a,b,rfl,rfl,rfl⟩
   | succ i=>exact ih zs i<|Nat.lt_of_succ_lt_succ hi
theorem tI:∀S zs,(gT S zs).length<=S.length/\((gT S zs).length=S.length\/(gT S zs).length=zs.length):=by intro S;induction S with
 | nil=>intro zs;exact⟨aQ _,.inl rfl⟩
 | cons a S ih=>intro zs;cases zs with
  | nil=>exact⟨ba _,.inr rfl⟩
  | cons b zs=>exact⟨dh (ih zs).1,(ih zs).2.imp (congrArg (· + 1))<|congrArg (· + 1)⟩
variable {h h':Heap}{ws us:Si}{S zs:Sb}
theorem tJ(R:RepAll h Z ws S)(Q:RepAll h Z us zs)(hi:i<(gT S zs).length) :∃a b x u,(gT S zs)[i]? = some (.tuple [a,b])/\ws[i]? = some x/\us[i]? = some u/\dW h Z x a/\dW h Z u b:=by refine kL (Ew S zs i hi) λa b q=>?_;obtain⟨x,hx,rx⟩:=R.get q.2.1;obtain⟨u,hu,ru⟩:=Q.get q.2.2;exact⟨a,b,x,u,q.1,hx,hu,rx,ru⟩
theorem Ap(R:RepAll h Z ws S)(Q:RepAll h Z us zs) :ws[(gT S zs).length]? = none\/us[(gT S zs).length]? = none:=
 (tI S zs).2.imp (λe=>by rw[e,<- R.length];exact fk<|aQ _) λe=>by rw[e,<- Q.length];exact fk<|aQ _
noncomputable def Qb(O us:Si)(i:Nat)(m:MC) :Prop:= ∃x u,O[i]? = some x/\us[i]? = some u/\m = .two x u
variable {z TI TO i1 i2 l1 l2:Addr}
inductive ZS(z TI TO i1 i2 l1 l2:Addr)(O us:Si)(k:Nat)(h:Heap) :Prop
 | mk (u v:Value) :IsZip h z TI TO .none->IsPair h TI (.ref i1) (.ref i2)->IsPair h TO u v->vh h i1 l1 O.toArray k false->vh h i2 l2 us.toArray k false->ZS z TI TO i1 i2 l1 l2 O us k h
theorem ZS.zst{k:Nat}(SC:ZS z TI TO i1 i2 l1 l2 ws us k h) :pL z TI TO i1 i2 l1 l2 ws.toArray us.toArray k false false h:=by obtain⟨u,v,a,b,c,d,e⟩:=SC;exact⟨_,_,u,v,a,.new,b,c,d,e⟩
theorem vh.live2{it l:Addr}{S:Array Value}{k:Nat}(x:vh h it l S k false) :(∃o,h.get? it=some o)/\ ∃o,h.get? l=some o:=by obtain⟨⟨o,e,_⟩,o',e',_⟩:=x;exact⟨⟨o,e⟩,o',e'⟩
theorem ZS.lv{k:Nat}(SC:ZS z TI TO i1 i2 l1 l2 ws us k h) :∀b∈ [z,TI,TO,i1,i2,l1,l2], ∃o,h.get? b=some o:=by obtain⟨u,v,a,b,c,d,e⟩:=SC;exact NY ⟨_,a⟩ ⟨_,b⟩ ⟨_,c⟩ d.live2.1 e.live2.1 d.live2.2 e.live2.2
theorem ZS.at{k:Nat}(SC:ZS z TI TO i1 i2 l1 l2 ws us k h)(q:∀b∈ [z,TI,TO,i1,i2,l1,l2], ∀o,h.get? b=some o->h'.get? b=some o) :ZS z TI TO i1 i2 l1 l2 ws us k h':=by obtain⟨u,v,a,b,c,d,e⟩:=SC;exact⟨u,v,q _ (by simp) _ a,q _ (by simp) _ b,q _ (by simp) _ c,d.at (q _ (by simp))<|q _ (by simp),e.at (q _ (by simp))<|q _ (by simp)⟩
def mQ{A:Around}(hh:A.handled=none)(D:ZipApart z TI TO i1 i2 l1 l2)(R:RepAll h Z ws S)(Q:RepAll h Z us zs) :Wk A .zip (gT S zs) where
 I:=z
 fp:=[z,TI,TO,i1,i2,l1,l2]
 wr:=[z,TO,i1,i2]
 P:=Qb ws us
 St:=λk h=>ZS z TI TO i1 i2 l1 l2 ws us k h
 sub:=NZ (by simp) (by simp) (by simp) (by simp)
 frame:=λi h h' SC k=>SC.at k
 lv:=λi h SC=>SC.lv
 item:=λi s g P E gk hi SC hQ=>by
  refine m5 (gk rfl) λes kk p j=>?_;subst j
  refine Hy (tJ R Q hi) λa b x u Sv=>?_
  have S0:=SC.zst;obtain⟨_,_,hz,_⟩:=SC;refine oI hh D S0 (by simpa using Sv.2.1) (by simpa using Sv.2.2.1) λh' T nT S' hT k zi=>⟨_,rfl,wpAny_letOwnedTupleGo_zip (s:= {s with heap:=h'}) (zi hz) λh'' z'' sb=>?_⟩
  have ne:∀{b:Addr},b≠z-> ∀o,h'.get? b=some o->h''.get? b=some o:=λq o e=>sb.extBut _ o q e
  have tz:T≠z:=λq=>by have nT:=q▸nT;have hz:s.heap.get? z=_:=hz;rw[nT]at hz;exact bz hz
  obtain⟨_,_,_,_,_,_,t2,t3,t4,t5⟩:=S';exact hQ (.two x u) _ h'' s.toks ⟨x,u,Sv.2.1,Sv.2.2.1,rfl⟩ ⟨_,rfl,nT,ne tz _ hT⟩ ⟨_,_,z'',ne D.TIz _ t2,ne D.TOz _ t3,t4.at (ne D.i1z)<|ne D.l1z,t5.at (ne D.i2z)<|ne D.l2z⟩
   λb o nb e=>ne (λq=>nb<|q▸ .head _) o<|k b o (λq=>nb<|q▸ .head _) (λq=>nb<|q▸ .tail _ (.head _)) (λq=>nb<|q▸ .tail _ (.tail _<|.head _)) (λq=>nb<|q▸ .tail _ (.tail _<|.tail _<|.head _)) e
 done:=λs P E SC hQ=>qC hh D SC.zst (by simpa using Ap R Q) λh' k=>hQ h' s.toks λb o nb e=>k b o (λq=>nb<|q▸ .head _) (λq=>nb<|q▸ .tail _ (.head _)) (λq=>nb<|q▸ .tail _ (.tail _<|.head _)) (λq=>nb<|q▸ .tail _ (.tail _<|.tail _<|.head _)) e
 self:=λi s P E SC hQ=>Aq SC.zst hQ
theorem Cj(h:di .zip V=some SJ) :∃S zs,V=[.tuple S,.tuple zs]/\gT S zs=SJ:=by cases V with
 | nil=>exact bz h
 | cons d V=>cases d with
  | tuple S=>cases V with
   | nil=>exact bz h
   | cons e V=>cases e with
    | tuple zs=>cases V with
     | nil=>exact⟨_,_,rfl,bO h⟩
     | cons=>exact bz h
    | _=>exact bz h
  | _=>exact bz h
theorem J6(hg:X.U.isG "zip")(F:F2 (λe x=>CE X.U e x/\SE X (eval e X.env) (ev X.c x)) [e1,e2] [x1,x2]) :SI X (eval (.Call (.Name "zip" p) [e1,e2] [] pos) X.env) .zip (evs X.c [x1,x2]):=by
 intro hh O T s Y out h hv y;refine fB (args:=[e1,e2]) rfl<|e9 y.base hg (by decide) (by decide) boot_zip<|bF (first:=[]) (by rw[F.1.1.star X.env,F.2.1.1.star X.env];rfl)<|oz F ?_;have h':bI (evs X.c [x1,x2] Y) (λrs Y=>some (.ok rs,Y))=some out:=by rw[h];obtain⟨_ | _,_⟩:=out <;> rfl
 refine nF (P:=[]) h' (λu e=>vG F O T s Y u e y) λrs bQ ws aM kX h q bE=>?_;obtain rfl:=bO h;obtain⟨V,SJ,er,ei⟩:=hv _ rfl;obtain⟨S,zs,rfl,rfl⟩:=Cj ei;obtain⟨Z,eK⟩:=bE.sat;have RR:=jf eK (λp hp=>em<|aC _ hp) q.len er;cases RR with | @cons v _ _ _ r1 RR=>
 cases RR with | @cons v' _ _ _ r2 RR=>
 cases RR with | nil=>
 obtain⟨l1,v1,_,rfl,t1,n1,R1,z1⟩:=eX.tuple<|.inl r1;obtain⟨l2,v2,_,rfl,t2,n2,R2,z2⟩:=eX.tuple<|.inl r2;refine DP (b:=false) (b2:=false) (S:=v1.toArray) (ys:=v2.toArray) ⟨_,t1,rfl,_,rfl⟩ ⟨_,t2,rfl,_,rfl⟩ λh' S' iz k=>Aq (s:= {aM with heap:=h'}) S' ?_;have nn:∀j,aM.heap.get? (aM.heap.objs.size+j)=none:=λj=>fI<|aq _ _;obtain⟨f0,f1,u,v,_,_,a3,a4,a5,a6⟩:=S';refine⟨rs,_,gT S zs,mQ hh (zipApart_new (br t1)<|br t2) R1 R2,[aM.heap.objs.size+4,aM.heap.objs.size+2,aM.heap.objs.size+3,aM.heap.objs.size+0,aM.heap.objs.size+1],rfl,er,rfl,af (tI S zs).1<|R1.length▸n1,rfl,
  Fr.wk (P:=tE rs [.ref l1,.ref l2]) (tk:=aM.toks) _ _ bE eK k ⟨u,v,iz,a3,a4,a5,a6⟩ (NY (.inr (by simp)) (.inr (by simp)) (.inr (by simp)) (.inr (by simp)) (.inr (by simp)) (.inl z1)<|.inl z2) (Qt ⟨nn 4,by simp[mQ]⟩ ⟨nn 2,by simp[mQ]⟩ ⟨nn 3,by simp[mQ]⟩ ⟨nn 0,by simp[mQ]⟩ ⟨nn 1,by simp[mQ]⟩) (NZ (by simp) (by simp) (by simp) (by simp)) λi m hi p=>?_⟩
 refine kL p λx u p=>?_;obtain rfl:=p.2.2;refine Hy (tJ R1 R2 hi) λa b x' u' Q=>?_;obtain rfl:=bO<|p.1.symm.trans Q.2.1;obtain rfl:=bO<|p.2.1.symm.trans Q.2.2.1;exact⟨_,Q.1,.two Q.2.2.2.1 Q.2.2.2.2⟩
end
section
variable {X:Cx}{O:bV}{Y:Fm}{T:List At}{s:Shared}{v:Value}{Z:Ss}{pos p:Pos}{e:Expr}{x:Ex}{out:Se (List Rv)×Fm}{h h':Heap}{ws:Si}{S:Sb}
theorem Dl:∀(S:Sb)(k i:Nat),(mr k S)[i]? = (S[i]?).map λd=>.tuple [.int (k+i:Nat),d]:=by intro S;induction S with
 | nil=>intro k i;rfl
 | cons a S ih=>intro k i;cases i with
  | zero=>rfl
  | succ i=>refine(ih (k+1) i).trans ?_;refine Er (show k+1+i=k+(i+1) from d7 k i) ?_;rfl
theorem kM:∀S k,(mr k S).length=S.length:=by intro S;induction S with
 | nil=>intro k;rfl
 | cons a S ih=>intro k;exact congrArg (· + 1)<|ih<|k+1
noncomputable def R4(O:Si)(i:Nat)(m:MC) :Prop:= ∃t x,O[i]? = some x/\m = .two (.int i t) x
inductive ES(e it l:Addr)(O:Si)(k:Nat)(h:Heap) :Prop
 | mk (old:Value) :IsEnum h e it k old->h.IsListIter it l k->h.IsList l O.toArray->ES e it l O k h
def EC{A:Around}{e it l:Addr}(hh:A.handled=none)(hei:e≠it)(hle:l≠e)(hli:l≠it)(R:ws.length=S.length) :Wk A .enum (mr 0 S) where
 I:=e
 fp:=[e,it,l]
 wr:=[e,it]
 P:=R4 ws
 St:=λk h=>ES e it l ws k h
 sub:=su (by simp) (by simp)
 frame:=λi h h' SC k=>by
  obtain⟨old,a,b,c⟩:=SC;exact⟨old,k _ (by simp) _ a,b.at<|k _ (by simp),c.at<|k _ (by simp)⟩
 lv:=λi h SC=>by
  obtain⟨old,a,⟨o,b,_⟩,⟨o',c,_⟩⟩:=SC;exact N0 ⟨_,a⟩ ⟨o,b⟩ ⟨o',c⟩
 item:=λi s g P E gk hi SC hQ=>by
  refine m5 (gk rfl) λes kk p Q=>?_;subst Q
  obtain⟨old,a,b,c⟩:=SC;rw[kM]at hi;have hi:=R.symm▸hi;have hx:ws.toArray[i]? = some ws[i]:=by simp[hi]
  refine wpAny_pyNext_enum_item a b c hx hei λh' ho hit hT hsz hk=>⟨_,rfl,wpAny_letOwnedTupleGo_enum ho λh'' he sb=>?_⟩
  have ne:∀{b:Addr},b≠e-> ∀o,h'.get? b=some o->h''.get? b=some o:=λq o e=>sb.extBut _ o q e
  exact hQ (.two (.int i s.toks) ws[i]) _ h'' (s.toks+1) ⟨_,_,aw hi,rfl⟩ ⟨_,rfl,ya _,ne (iq<|br a) _ hT⟩ ⟨_,he,hit.at<|ne hei.symm,c.at λo e=>ne hle o<|hk l o hle hli e⟩
   λb o nb e=>ne (λq=>nb<|q▸ .head _) o<|hk b o (λq=>nb<|q▸ .head _) (λq=>nb<|q▸ .tail _ (.head _)) e
 done:=λs P E SC hQ=>by
  obtain⟨old,a,b,c⟩:=SC;rw[kM,<- R]at a b;exact wpAny_pyNext_enum_end hh a b c (by simp) λh' k=>hQ h' s.toks λb o nb e=>k b o (λq=>nb<|q▸ .tail _ (.head _)) e
 self:=λi s P E SC hQ=>by
  obtain⟨old,a,_⟩:=SC;exact wpAny_pyIter_enum a hQ
theorem Fh(hg:X.U.isG "enumerate")(hc:CE X.U e x)(H:SE X (eval e X.env) (ev X.c x)) :SI X (eval (.Call (.Name "enumerate" p) [e] [] pos) X.env) .enum (evs X.c [x]):=by intro hh O T s Y out h hv y;refine fB (args:=[e]) rfl (e9 y.base hg (by decide) (by decide) boot_enumerate (bF (first:=[]) (by rw[hc.star X.env];rfl) ?_));rw[hc.star X.env];refine bS (bG (Fi H h hv y λr d SJ bQ v aM Z eo er ei bE eK vf=>?_));subst eo;cases d with
 | list S=>
  obtain rfl:=bO ei;cases vf with
  | @list l ws _ m za hl hn Rs=>
  refine cD<|call_enumerate_1 hl λh' he hit' hz k=>wpAny_pyIter_enum (s:= {aM with heap:=h'}) he ?_;have nn:∀j,aM.heap.get? (aM.heap.objs.size+j)=none:=λj=>fI<|aq _ _;refine⟨[r],_,mr 0 S,EC hh (iq<|dZ _) (bW<|ki<|br hl) (bW<|br hl) Rs.length,[aM.heap.objs.size+1,aM.heap.objs.size],rfl,er,rfl,by rw[kM,<- Rs.length];exact hn,rfl,
   Fr.wk (tk:=aM.toks) _ _ bE eK k ⟨_,he,hit',⟨_,k _ _ hl,rfl,_,rfl⟩⟩ (N0 (.inr<|.head _) (.inr<|.tail _<|.head _)<|.inl za) (su ⟨nn 1,.head _⟩ ⟨nn 0,.tail _<|.head _⟩) (su (.head _)<|.tail _<|.head _) λi m hi p=>?_⟩
  refine kL p λt x p=>?_;obtain rfl:=p.2;rw[kM]at hi;obtain⟨x',hx',rx⟩:=Rs.get<|aw hi;obtain rfl:=bO<|p.1.symm.trans hx';refine⟨_,(Dl S 0 i).trans (by rw[aw hi];rfl),.two ?_ rx⟩;rw[aX];exact .int _ t
 | _=>exact bz ei
end
section
variable {X:Cx}{O:bV}{Y:Fm}{T:List At}{s:Shared}{i:Nat}{v:Value}{d:D}{Z:Ss}{Q:Unit->Shared->Prop}{E:Sr}{x a:Str}{pos p:Pos}{L:Addr}{ls:Lay}{h h':Heap}{l:Loc}
theorem xO{a:Addr}{m m':Str->So}(h1:h.Ns a m)(h2:h.Ns a m') :m=m':=m5 h1 λo es ep u=>by obtain⟨o',es',ep',ho,hd,_,hf⟩:=h2;rw[u.1]at ho;obtain rfl:=bO ho;have hd:=u.2.1▸hd;cases hd;funext x;rw[<- u.2.2.2,hf]
noncomputable def putL(h h':Heap)(v:Value) :Loc->Prop
 | .dict a x=> ∃m,h.Ns a m/\h'.Ns a λz=>if z=x then some v else m z
 | .cell a=>h'.IsCell a<|some v
theorem DZ(y:(bA L ls O).ok Z h)(hl:ls i=some l)(ap:∀j k,ls j=some k->j≠i->k.addr=l.addr-> ∃a x z,k = .dict a x/\l = .dict a z/\x≠z)(kp:∀a o,a≠l.addr->h.get? a=some o->h'.get? a=some o)(pt:putL h h' v l) :(bA L ls<|upd O i v).ok Z h':=by
 have nsk:∀{a m},a≠l.addr->h.Ns a m->h'.Ns a m:=λn q=>m5 q λo es ep q=>⟨o,es,ep,kp _ o n q.1,q.2⟩
 have clk:∀{a u},a≠l.addr->h.IsCell a u->h'.IsCell a u:=λn q=>aR q λo q=>⟨o,kp _ o n q.1,q.2⟩
 have rdi:FD h' l v:=by cases l with | dict a x=>exact aR pt λm u=>⟨_,u.2,if_pos rfl⟩ | cell a=>exact pt
 have ky:FS h' l:=by cases l with | dict a x=>exact aR pt λm u=>⟨_,u.2⟩ | cell a=>exact⟨_,pt⟩
 refine⟨aR y.1 λm u=>?_,λj k hk=>⟨(y.2 j k hk).1,?_,λu hu=>?_⟩⟩
 .by_cases q:L=l.addr
  .cases l with
   | dict a x=>obtain rfl:=q;exact aR pt λm u=>⟨_,u.2⟩
   | cell a=>exact absurd q.symm<|(y.2 i _ hl).1 a rfl
  .exact⟨m,nsk q u⟩
 .by_cases q:j=i
  .subst q;rw[hl]at hk;exact bO hk▸ky
  by_cases e:k.addr=l.addr
  .obtain⟨a,x,z,rfl,rfl,_⟩:=ap j k hk q e;exact ky
  .have:=(y.2 j k hk).2.1
   cases k with
   | dict a x=>exact aR this λm u=>⟨m,nsk e u⟩
   | cell a=>exact aR this λm u=>⟨m,clk e u⟩
 .by_cases q:j=i
  .subst q;rw[lS]at hu;rw[hl]at hk;rw[<- bO hk,<- bO hu];exact rdi
  rw[gP q]at hu;have:=(y.2 j k hk).2.2 u hu;by_cases e:k.addr=l.addr
  .obtain⟨a,x,z,rfl,rfl,n⟩:=ap j k hk q e;exact aR pt λm w=>aR this λm' r=>⟨_,w.2,(if_neg n).trans<|xO r.1 w.1▸r.2⟩
  .cases k with
   | dict a x=>exact aR this λm u=>⟨m,nsk e u.1,u.2⟩
   | cell a=>exact clk e this
theorem Mm(hl:ls i=some l){as:Sg}(h:∀i∈as,ls i=none) :as.map (upd O i v)=as.map O:=dG λj hj=>gP λq=>by rw[q]at hj;rw[h i hj]at hl;exact bz hl
theorem Fr.put'{tk:Nat}(y:Fr X O Y T s)(hl:X.ls i=some l)(G:X.J≠none->X.si≠i)(hn:∀sl,Y[i]? = some sl->sl = .no)(kp:∀a o,a≠l.addr->s.heap.get? a=some o->h'.get? a=some o)(pt:putL s.heap h' v l) :Fr X (upd O i v) Y T {s with heap:=h',toks:=tk}:=by refine⟨aR y.sat λZ y=>⟨Z,?_⟩,λx o dx e=>(gP<|G (by rw[e];exact λq=>bz q.symm)).trans<|y.slf x o dx e⟩;unfold Cx.W;rw[Mm hl X.asl,show Sk (upd O i v) 0 Y=Sk O 0 Y from hZ λj sl e n=>gP λq=>by rw[aX]at q;subst q;exact n<|hn sl e];exact bD.one (tk:=tk) y (λa o e n=>kp a o (λq=>n<|.inr ⟨i,l,hl,q.symm⟩) e) (λj0_ z=>z) (λj0_ z=>.inl z) (DZ (y.ok _ aa) hl (λj k hk n e=>X.ap j i k l hk hl n e) kp pt) λa q=>⟨.inl q,y.nz _ aa a q⟩
theorem Cx.loc(X:Cx)(hv:X.U.vars.lookup x=some i) :∃l,X.ls i=some l:=(X.var x i hv).elim (λq=>⟨_,q.2⟩) λq=>aR q.2 λc q=>⟨_,q.2⟩
theorem qF(y:Fr X O Y T s)(hv:X.U.vars.lookup x=some i)(hf:X.env.kindOf x≠some .free)(hn:∀sl,Y[i]? = some sl->sl = .no)(h:∀s',Fr X (upd O i v) Y T s'->Q () s') :wpAny (model prog w) X.A (storeName X.env x v) Q E s:=by
 obtain⟨Z,z⟩:=y.sat;have b:=(z.ok _ aa).2;have si:=λn=>X.nsi n x i hv;rcases X.var x i hv with⟨hk,el⟩ | ⟨hk | ⟨hk,_⟩,c,hc,el⟩
 .obtain⟨m,ns⟩:=(b i _ el).2.1;exact wpAny_storeName_local hk ns (λh' hn' G=>h _<|y.put' (tk:=_) el si hn (λa o q e=>G.extBut a o q e) ⟨m,ns,hn'⟩) (by rw[X.kind];rfl)
 .obtain⟨RM,OB⟩:=(b i _ el).2.1;exact wpAny_storeName_cell X.kind hk hc OB λh' hc' G=>h _<|y.put' (tk:=_) el si hn (λa o q e=>G.extBut a o q e) hc'
 .exact absurd hk hf
theorem Fr.keep(y:Fr X O (Y.set i .no) (tA r v++T) s)(hv:O i=some v)(he:asgT X.c.pin Y (.one i) r=some aP) :Fr X O aP T s:=by have q:=pZ he;cases r with
 | fz d=>exact bO q.2▸Fr.set (hv▸y)
 | own d=>exact bO q.2▸Fr.set (sl:=.own d) (hv▸y)
 | pl p=>exact bz q.2
theorem oQ{sl:Slot}(h:(Y.set i .no)[i]? = some sl) :sl = .no:=by rw[rD,if_pos rfl]at h;exact(gQ h).2.symm
theorem oy(y:Fr X O Y (tA r v++T) s)(hv:X.U.vars.lookup x=some i)(hf:X.env.kindOf x≠some .free)(he:asgT X.c.pin Y (.one i) r=some aP)(h:∀s',Fr X (upd O i v) aP T s'->Q () s') :wpAny (model prog w) X.A (storeName X.env x v) Q E s:=
 qF (y.forget i) hv hf (λj0_=>oQ) λs' z=>h s'<|z.keep lS he
end
structure Lv(P fs:Ss)(h h':Heap) :Prop where
 keep:∀b o,h.get? b=some o-> ¬P b-> ¬fs b->h'.get? b=some o
 slot:∀b o,fs b-> ¬P b->h.get? b=some o-> ∃sl,h'.get? b=some {o with slots:=sl}
 live:∀b o,h.get? b=some o-> ∃o',h'.get? b=some o'
theorem Lv.trans{P fs:Ss}(x:Lv P fs h h')(z:Lv P fs h' h'') :Lv P fs h h'' where
 keep:=λb o e p f=>z.keep b o (x.keep b o e p f) p f
 slot:=λb o f p e=>let ⟨_,e'⟩:=x.slot b o f p e;let ⟨sl,e''⟩:=z.slot b _ f p e';⟨sl,e''⟩
 live:=λb o e=>let ⟨o',e'⟩:=x.live b o e;z.live b o' e'
theorem Lv.upd{P fs:Ss}{T:Addr}(p:P T)(e:h.get? T=some o)(q:(f o).isFreed=false) :Lv P fs h (h.update T f) where
 keep:=λb o e n j0_=>(dF h f λq:T=b=>n<|q▸p).trans e
 slot:=λb o j0_ n e=>⟨o.slots,(dF h f λq:T=b=>n<|q▸p).trans e⟩
 live:=λb o' e'=>by
  by_cases z:b=T
  .subst z;exact⟨_,ly f e q⟩
  .exact⟨o',(dF h f<|Ne.symm z).trans e'⟩
theorem Lv.push{P fs:Ss}(o:Obj) :Lv P fs h (h.push o) where
 keep:=λb o e j0_ j1_=>pK _ b o e
 slot:=λb o j0_ j1_ e=>⟨o.slots,pK _ b o e⟩
 live:=λb o e=>⟨o,pK _ b o e⟩
theorem Lv.slots{P fs:Ss}{SC:List Addr}(x:Heap.SlotsOnly SC h h')(k:∀b∈SC,fs b) :Lv P fs h h' where
 keep:=λb o e j0_ f=>(x.2.1 b λq=>f<|k b q).trans e
 slot:=λb o j0_ j1_ e=>x.2.2 b o e
 live:=λb o e=>let ⟨_,e⟩:=x.2.2 b o e;⟨_,e⟩
theorem Lv.refl{P fs:Ss} :Lv P fs h h:=⟨λj0_ j1_ e j2_ j3_=>e,λj0_ o j1_ j2_ e=>⟨o.slots,e⟩,λj0_ o e=>⟨o,e⟩⟩
theorem DE(o:Obj)(f:Array Value->Array Value) :(Obj.mapFields f o).dict=o.dict:=by obtain⟨c,d,dt,sl⟩:=o;cases dt <;> rfl
noncomputable def fT(h:Heap)(P:Ss)(a:Addr)(nm:Str) :Prop:=
 P a/\ ∃oe O C m,h.get? a=some oe/\(oe.cls = .ref C/\oe.dict=none)/\oe.data = .fields O/\B.Ns mainGlobals m/\m nm=some (.ref C)/\
  ∃T oT ts,O[1]? = some (.ref T)/\T≠a/\h.get? T=some oT/\oT.data = .fields ts/\3<ts.size/\P T
theorem fT.is{P:Ss} :fT h P a nm->lm h P a nm:=by intro x;obtain⟨p,oe,O,C,m,h1,h2,h3,h4,h5,h6⟩:=x;exact⟨p,oe,O,C,m,h1,h2,h3,h4,h5,.inr h6⟩
section
variable {M:Model}{A:Around}{E:Sr}{s:Shared}{env e0:Env}{outer:List Env}{L a:Addr}{nm:Str}{P:Ss}{Q:Unit->Shared->Prop}
theorem qV{O:Array Value}{C:Addr}(hfr:A.frames=some (e0::outer))(hfe:e0.frame=env.frame)(hl:s.heap.FunFrames B (e0::outer))(hf:env.frame=some L)(he:s.heap.get? a=some oe)(hd:oe.data = .fields O)(hsz:1<O.size)
  (hc:oe.cls = .ref C/\oe.dict=none) (hn:B.Ns mainGlobals m) (hm:m nm=some (.ref C)) (pa:P a) (hP:∀b,s.heap.get? b=none->P b)
  (k:∀h',Lv P (λb=>b∈(e0::outer).filterMap (·.frame)) s.heap h'->fT h' P a nm->Q () {s with heap:=h'}) :
  wpAny M A (do let fa <- frameOf env;let pl <- entryPlaceOf L hadNext;let b <- EntryCells.newEntry head fa .none (rawInt L) .none pl;setField (.ref a) 1 b) Q E s:=by
 have ha:a∉(e0::outer).filterMap (·.frame):=λq=>by obtain⟨_,o,ho,nr⟩:=hl.mem q;rw[he]at ho;obtain rfl:=bO ho;exact nr O hd
 refine Er (show frameOf env=frameOf e0 from by unfold frameOf; exact Er hfe rfl) ?_;refine ae (wpAny_frameOf_fun hfr hl (hfe.trans hf) λh₁ bE=>?_);refine ae (wpAny_entryPlaceOf λpl hpl=>?_);unfold EntryCells.newEntry newFields;refine ae (cc ?_ (hpl.sizeOk5 _ _ _ _ _));have kX:=(bE.2.1 a ha).trans he;generalize hT:({cls:=.type "traceback",dict:=none,data:=.fields ([head,.ref L,.none,rawInt L,.none] ++ (if pl.isEmpty then List.replicate 6 Value.none else pl)).toArray} :Obj) = oT;refine pQ (bP (h:=h₁) oT kX) hd hsz ?_;have hTf:oT.isFreed=false:=by refine Er hT.symm ?_; rfl
 obtain⟨ts,hts,hsz3⟩ :∃ts,oT.data = .fields ts/\3<ts.size:=⟨_,by exact Er hT.symm rfl,by simp only[ax,aj,aD,dN];omega⟩
 have pT:P h₁.objs.size:=hP _ (by refine Er bE.1 ?_;exact ya _);exact k _ (((Lv.slots bE λb q=>q).trans<|Lv.push oT).trans<|Lv.upd pa (bP (h:=h₁) oT kX)<|fj<|de hd (·.setIfInBounds 1 (Value.ref h₁.objs.size)))
  ⟨pa,_,_,C,m,(ly (Obj.mapFields (·.setIfInBounds 1 (Value.ref h₁.objs.size))) (bP (h:=h₁) oT kX)<|fj<|de hd (·.setIfInBounds 1 (Value.ref h₁.objs.size))),⟨(Obj.cls_mapFields _ _).trans hc.1,(DE _ _).trans hc.2⟩,(de hd (·.setIfInBounds 1 (Value.ref h₁.objs.size))),hn,hm,h₁.objs.size,oT,ts,by simp[hsz],(iq<|br kX),((dF (h₁.push oT) (Obj.mapFields (·.setIfInBounds 1 (Value.ref h₁.objs.size)))<|Ne.symm<|iq<|br kX).trans<|bl h₁ hTf),hts,hsz3,pT⟩
theorem Bw(hfr:A.frames=some (e0::outer))(hfe:e0.frame=env.frame)(hl:s.heap.FunFrames B (e0::outer))(hf:env.frame=some L)(X:lm s.heap P a nm)(hP:∀b,s.heap.get? b=none->P b)
  (k:∀h',Lv P (λb=>b∈(e0::outer).filterMap (·.frame)) s.heap h'->fT h' P a nm->Q () {s with heap:=h'}) :wpAny M A (noteFrame (.ref a) env) Q E s:=by
 obtain⟨pa,oe,O,C,m,he,hc,hd,hn,hm,ht⟩:=X;unfold noteFrame;simp only[hf];refine cX λSD g=>?_;rcases ht with h1 | ⟨T,oT,ts,h1,ne,eT,hdT,sz,pT⟩
 .exact g (ae<|bY he hd h1<|Er (if_neg (by decide))<|qV hfr hfe hl hf he hd (ii.mp h1).1 hc hn hm pa hP k)
 .refine g ?_;refine ae<|bY he hd h1 ?_;refine Er (if_pos (show(Value.ref T != Value.none)=true from by simp)) ?_;refine ae<|bY eT hdT (qB sz) ?_;by_cases q:(ts[3]==rawInt L)=true
  .exact Er (if_pos q) (au<|k _ .refl ⟨pa,oe,O,C,m,he,hc,hd,hn,hm,T,oT,ts,h1,ne,eT,hdT,sz,pT⟩)
  refine Er (if_neg q) ?_;refine ae<|pQ eT hdT sz ?_;have u:Lv P (λb=>b∈(e0::outer).filterMap (·.frame)) s.heap (s.heap.update T<|Obj.mapFields (·.setIfInBounds 3 Value.none)):=Lv.upd pT eT<|fj<|de hdT (·.setIfInBounds 3 Value.none);have hl':(s.heap.update T<|Obj.mapFields (·.setIfInBounds 3 Value.none)).FunFrames B (e0::outer):=hl.of_keeps λb o hb nr=>⟨o,(dF _ _ λq=>by subst q;rw[eT]at hb;obtain rfl:=bO hb;exact nr ts hdT).trans hb,rfl⟩
  refine qV (s:= {s with heap:=s.heap.update T (Obj.mapFields (·.setIfInBounds 3 Value.none))}) hfr hfe hl' hf ((dF _ _ ne).trans he) hd (ii.mp h1).1 hc hn hm pa (λb e=>hP b ?_) λh' x y=>k h' (u.trans x) y;cases q:s.heap.get? b with
  | none=>rfl
  | some o=>obtain⟨o',e'⟩:=u.live b o q;rw[e]at e';exact bz e'
theorem Hg(fo:Option Addr)(X:fT s.heap P a nm)(k:∀h',Lv P fs s.heap h'->fT h' P a nm->Q () {s with heap:=h'}) :wpAny M A (setFlight (.ref a) fo) Q E s:=by refine cX λSD g=>?_;obtain⟨pa,oe,O,C,m,he,hc,hd,hn,hm,T,oT,ts,h1,ne,eT,hdT,sz,pT⟩:=X;refine g ?_;unfold setFlight;refine ae<|bY he hd h1 ?_;refine Er (if_pos (show(Value.ref T != Value.none)=true from by simp)) ?_;generalize fo.elim Value.none (λf=>rawInt f)=x;exact pQ eT hdT sz<|k _ (Lv.upd pT eT<|fj<|de hdT (·.setIfInBounds 3 x)) ⟨pa,oe,O,C,m,(dF _ _ ne).trans he,hc,hd,hn,hm,T,_,_,h1,ne,ly _ eT<|fj<|de hdT (·.setIfInBounds 3 x),de hdT _,by simpa using sz,pT⟩
theorem fT.tb(X:fT s.heap P a nm){Q:Sr}(k:∀T,Q (.ref T) s) :wpAny M A (field (.ref a) 1) Q E s:=by refine cX λSD g=>?_;obtain⟨_,oe,O,_,_,he,_,hd,_,_,T,_,_,h1,_⟩:=X;exact g<|bY he hd h1<|k T
theorem fT.mono(X:fT h P a nm)(k:∀b o O,o.data = .fields O->h.get? b=some o->h'.get? b=some o)(kp:∀b,P b->P' b) :fT h' P' a nm:=by refine cX λSD g=>?_;obtain⟨pa,oe,O,C,m,he,hc,hd,hn,hm,T,oT,ts,h1,ne,eT,hdT,sz,pT⟩:=X;exact g<|⟨kp _ pa,oe,O,C,m,k _ _ _ hd he,hc,hd,hn,hm,T,oT,ts,h1,ne,k _ _ _ hdT eT,hdT,sz,kp _ pT⟩
end
section
variable {X:Cx}{O:bV}{Y:Fm}{T W:List At}{s s':Shared}{Z:Ss}{h':Heap}{P P' fs:Ss}{a:Addr}{nm:Str}
theorem A7{p q:At}(y:bD Z s W)(hp:p∈W)(hq:q∈W){b:Addr}(h1:p.own b)(h2:q.own b) :p=q:=by
 obtain⟨i,hi,rfl⟩:=List.getElem_of_mem hp;obtain⟨j,hj,rfl⟩:=List.getElem_of_mem hq;have pw:=List.pairwise_iff_getElem.mp y.pw;rcases Nat.lt_trichotomy i j with q | rfl | q
 .exact(pw i j hi hj q b h1 h2).elim
 .rfl
 .exact(pw j i hj hi q b h2 h1).elim
theorem bD.lv(y:bD Z s (xA P a nm::W))(x:Lv (λb=>P b\/s.heap.get? b=none) fs s.heap h')(hf:∀b,fs b-> ∃p∈W,p.Y b)(e:fT h' (λb=>P b\/s.heap.get? b=none) a nm) :
  ∃P',fT h' P' a nm/\bD Z {s with heap:=h'} (xA P' a nm::W):=by
 have nf:∀{b},fs b-> ∀q∈xA P a nm::W,q.own b->q.Y b:=λf q hq w=>aR (hf _ f) λp u=>(A7 y (ac _ u.1) hq (p.fn (y.ok p<|ac _ u.1) u.2).1 w)▸u.2;have zf:∀{b},Z b-> ¬fs b:=λz f=>aR (hf _ f) λp u=>y.nz p (ac _ u.1) _ (p.fn (y.ok p<|ac _ u.1) u.2).1 z;have zp:∀{b o},Z b->s.heap.get? b=some o-> ¬(P b\/s.heap.get? b=none):=λz e q=>q.elim (λq=>y.nz _ aa _ q z) λq=>by rw[e]at q;exact nomatch q
 have kz:∀b o,Z b->s.heap.get? b=some o->h'.get? b=some o:=λb o z e=>x.keep b o e (zp z e)<|zf z;have pp:∀{p:At}{b:Addr}{o:Obj},p∈W->p.own b->s.heap.get? b=some o-> ¬(P b\/s.heap.get? b=none):=λhp w e q=>q.elim (λq=>(List.pairwise_cons.mp y.pw).1 _ hp _ q w) λq=>by rw[e]at q;exact nomatch q
 have lv:∀{b},P b-> ∃o,h'.get? b=some o:=λp=>aR (y.live aa p) λo e=>x.live _ o e;obtain⟨pa,oe,O,C,m,he,hc,hd,hn,hm,T,oT,ts,h1,ne,eT,hdT,sz,pT⟩:=e;have ex:fT h' (λb=>(P b\/s.heap.get? b=none)/\ ∃o,h'.get? b=some o) a nm:=⟨⟨pa,_,he⟩,oe,O,C,m,he,hc,hd,hn,hm,T,oT,ts,h1,ne,eT,hdT,sz,pT,_,eT⟩
 refine⟨_,ex,y.sh.to (tk:=s.toks),λb o e=>kz b o (y.zb b o e)<|y.base b o e,y.zb,λb z=>aR (y.zl b z) λo e=>⟨o,kz b o z e⟩,λp hp=>(am.mp hp).elim (λq=>q▸⟨ex.is,λb p=>p.2⟩) λhp=>p.st (λj0_ z=>z) (λb o e u=>?_)<|y.ok p<|ac _ hp,List.pairwise_cons.mpr ⟨λp hp b w v=>?_,(List.pairwise_cons.mp y.pw).2⟩,λp hp b w z=>(am.mp hp).elim (λq=>?_) λhp=>y.nz p (ac _ hp) b w z⟩
 .by_cases f:fs b
  .exact u.elim (λz=>absurd f<|zf z) λw=>.inr ⟨nf f p (ac _ hp) w,x.slot b o f (pp hp w e) e⟩
  .exact .inl (x.keep b o e (u.elim (λz=>zp z e) λw=>pp hp w e) f)
 .exact aR (y.live (ac _ hp) v) λo e=>pp hp v e w.1
 .subst q;exact w.1.elim (λq=>y.nz _ aa b q z) λq=>aR (y.zl b z) λo e=>by rw[q]at e;exact nomatch e
theorem wu(st:tC (λa=> ∃p∈W,p.Y a) X.A)(y:bD Z s W) :∃l,X.A.frames=some l/\s.heap.FunFrames B l/\ ∀b∈l.filterMap (·.frame), ∃p∈W,p.Y b:=by
 obtain⟨l,hl,hk⟩:=st;refine⟨l,hl,?_,λb hb=>?_⟩
 .clear hl;induction l with
  | nil=>trivial
  | cons e l ih=>obtain⟨h1,L,h2,p,hp,hf⟩:=hk e<|.head _;obtain⟨w,o,ho,nr⟩:=p.fn (y.ok p hp) hf;refine⟨h1,⟨L,o,h2,?_,ho,nr⟩,ih λe he=>hk e<|.tail _ he⟩;cases q:B.get? L with
   | none=>rfl
   | some o=>exact absurd (y.zb L o q)<|y.nz p hp L w
 .refine aR (List.mem_filterMap.mp hb) λe J=>?_;obtain⟨_,L,Sv⟩:=hk e J.1;have h1:=J.2;rw[Sv.1]at h1;exact bO h1▸Sv.2
theorem Cx.frs(X:Cx) :tC (λa=> ∃p∈X.W O Y T,p.Y a) X.A:=aR X.stk λl h=>⟨l,h.1,λe he=>⟨(h.2 e he).1,aR (h.2 e he).2 λL u=>⟨L,u.1,u.2.elim (λq=>⟨_,aa,q⟩) λq=>aR q λp q=>⟨p,ac _<|aE _<|aE _<|aE _ q.1,q.2⟩⟩⟩⟩
inductive PY{β:Type}(X:Cx)(O:bV)(T:List At)(out:Se β×Fm)(e:Value)(s':Shared) :Prop
 | mk (nm:Str) (a:Addr) (P:Ss) :out.1 = .error nm->e = .ref a->fT s'.heap P a nm->Fr X O out.2 (xA P a nm::T) s'->PY X O T out e s'
theorem Fr.x(x:Fr X O Y (xA P a nm::T) s) :∃Z,bD Z s (xA P a nm::X.W O Y T):=aR x.sat λZ y=>⟨Z,y.perm<|g8 (P:=[_]) ..⟩
theorem Fr.lv(x:Fr X O Y (xA P a nm::T) s)(l:Lv (λb=>P b\/s.heap.get? b=none) fs s.heap h')(hf:∀b,fs b-> ∃p∈X.W O Y T,p.Y b)(e:fT h' (λb=>P b\/s.heap.get? b=none) a nm) :∃P',fT h' P' a nm/\Fr X O Y (xA P' a nm::T) {s with heap:=h'}:=
 aR x.x λZ y=>aR (y.lv l hf e) λP' u=>⟨P',u.1,n5 (P:=[_]) ⟨Z,u.2⟩,x.slf⟩
theorem lm.wide(x:lm h P a nm)(k:∀b,P b->P' b) :lm h P' a nm:=x.mono λb o p e=>⟨k b p,e⟩
theorem PX.noteW{e:Value}{out:Se β×Fm}{Q:Unit->Shared->Prop}(x:PX X O T out e s')(k:∀s'',PY X O T out e s''->Q () s'') :wpAny (model prog w) X.A (noteFrame e X.env) Q E s':=by obtain⟨nm,a,P,q,rfl,x⟩:=x;obtain⟨Z,y⟩:=x.x;obtain⟨e0,outer,h1,h2⟩:=X.top;obtain⟨l,hl,z⟩:=wu X.frs<|y.sub<|List.sublist_cons_self _ _;rw[h1]at hl;obtain rfl:=bO hl;exact Bw h1 h2 z.1 X.frame ((y.ok _ aa).1.wide λj0_ p=>.inl p) (λb e=>.inr e) λeO lv Mr=>aR (x.lv lv z.2 Mr) λP' u=>k _ ⟨nm,a,P',q,rfl,u.1,u.2⟩
theorem PX.note{e:Value}{out:Se β×Fm}{R:Sr}(x:PX X O T out e s')(k:∀s'',PY X O T out e s''->R e s'') :notedBy (model prog w) X.A X.env R e s':=x.noteW k
theorem PX.clr{e:Value}{l:Sg}(x:PX X O T ((.error nm:Se β),f) e s') :PX X O T ((.error nm:Se γ),Mv.clr f l) e s':=by obtain⟨nm',a,P,q,e1,x⟩:=x;cases q;exact⟨nm,a,P,rfl,e1,x.clr l⟩
theorem PY.px{e:Value}{out:Se β×Fm}(x:PY X O T out e s') :PX X O T out e s':=by obtain⟨nm,a,P,q,e,_,x⟩:=x;exact⟨nm,a,P,q,e,x⟩
theorem PY.fly{e:Value}{out:Se β×Fm}{fo:Option Addr}{Q:Unit->Shared->Prop}(x:PY X O T out e s')(k:∀s'',PY X O T out e s''->Q () s'') :wpAny (model prog w) X.A (setFlight e fo) Q E s':=by obtain⟨nm,a,P,q,rfl,t,x⟩:=x;exact Hg (fs:=λj0_=>False) fo (t.mono (P':=λb=>P b\/s'.heap.get? b=none) (λj0_ j1_ j2_ j3_ e=>e) λj0_ p=>.inl p) λeO lv Mr=>aR (x.lv lv (λj0_ f=>f.elim) Mr) λP' u=>k _ ⟨nm,a,P',q,rfl,u.1,u.2⟩
theorem BS{e:Value}{out:Se β×Fm}(k:∀e s',PX X O T out e s'->E e s')(x:PX X O T out e s') :notedBy (model prog w) X.A X.env (λe s''=>cameBackBy (model prog w) X.A X.env E e s'') e s':=
 x.note λbC p=>by have p':=p;obtain⟨nm,a,P,q,rfl,t,x⟩:=p';exact ae<|t.tb λT=>(Er (if_neg (show ¬(Value.ref T==Value.none)=true from by simp))<|p.fly λgJ p=>k _ _ p.px)
end
noncomputable def DL(env:Env) :List (Str×NameKind)->List (Str×Addr)->List (Str×Addr)
 | [],SK=>SK
 | (n,k)::r,SK=>if k == .free then DL env r ((n,(env.cells.lookup n).getD 0)::SK) else DL env r SK
theorem q8{x:Str×NameKind} :DL env (x::r) SK=if x.2 == .free then DL env r ((x.1,(env.cells.lookup x.1).getD 0)::SK) else DL env r SK:=rfl
theorem n4(h:∀x∈scope.names,x.2 = .free-> ∃c,env.cells.lookup x.1=some c) :closureFor scope env=pure (DL env scope.names []):=by
 simp only[closureFor]
 suffices H:∀l SK,(∀x∈l,x.2 = .free-> ∃c,env.cells.lookup x.1=some c)->(forIn l SK λx r=>match x with
   | (name,kind)=>if (kind==NameKind.free)=true then do let a <- cellOf env name;pure (ForInStep.yield ((name,a)::r)) else pure (ForInStep.yield r))=(pure (DL env l SK) :Sem (List<|Str×Addr)) by
  refine Er (H _ _ h) ?_;rfl
 intro l;induction l with
 | nil=>intro SK _;rfl
 | cons x l ih=>intro SK hx;rw[jc];cases hk:x.2==NameKind.free with
  | false=>
   dsimp only;refine Er hk<|Er (if_neg gy) ?_;refine Eq.trans ?_<|(ih SK λx hm=>hx x<|ac _ hm).trans ?_
   .rfl
   .rw[q8,hk];rfl
  | true=>
   dsimp only;refine Er hk<|Er (if_pos rfl) ?_;refine aR (hx (x.1,x.2) aa (by simpa using hk)) λc hc=>?_;have:cellOf env x.1=pure c:=by unfold cellOf;exact Er hc rfl
   refine Er this ?_;refine Eq.trans ?_<|(ih ((x.1,c)::SK) λx hm=>hx x<|ac _ hm).trans ?_
   .rfl
   .rw[q8,hk,hc];rfl
set_option tactic.hygienic true in
theorem Mb:∀l SK,(∀x∈l,x.2 = .free-> ∃c,env.cells.lookup x.1=some c)->(∀p∈SK,env.cells.lookup p.1=some p.2)-> ∀p∈DL env l SK,env.cells.lookup p.1=some p.2:=by intro l SK hx h;induction l generalizing SK h with
 | nil=>exact h
 | cons p0 l ih=>
  have hx':∀x∈l,x.2 = .free-> ∃c,env.cells.lookup x.1=some c:=λx hm=>hx x<|ac _ hm;rw[q8];split
  .rename_i hk;refine ih _ hx' λp hp=>?_;rcases am.mp hp with rfl | hp
   .refine aR (hx (p0.1,p0.2) aa (by simpa using hk)) λc hc=>?_;simp[hc]
   .exact h p hp
  .exact ih SK hx' h
theorem Ig:∀l SK, ∀p∈SK,p∈DL env l SK:=by intro l SK p h;induction l generalizing SK p h with
 | nil=>exact h
 | cons p0 l ih=>
  rw[q8];split
  .exact ih _ p (ac _ h)
  .exact ih _ p h
theorem Ie:∀(l:List (Str×NameKind))(SK:List (Str×Addr))(x:Str×NameKind),x∈l->x.2 = .free-> ∃c,(x.1,c)∈DL env l SK:=by intro l SK x h hx;induction l generalizing SK x hx with
 | nil=>cases h
 | cons p0 l ih=>
  obtain⟨n,k⟩:=p0;rcases am.mp h with rfl | h
  .have hk:k = .free:=hx;subst hk;exact⟨(env.cells.lookup n).getD 0,by rw[q8];exact Ig l _ _ aa⟩
  .rw[q8];split
   .exact ih _ x h hx
   .exact ih _ x h hx
theorem lc:∀{l:List (Str×α)}{x:Str}{c:α},(x,c)∈l-> ∃c',l.lookup x=some c'/\(x,c')∈l:=by intro l x c h;induction l generalizing x c with
 | nil=>cases h
 | cons p0 l ih=>refine Er aU ?_;cases hx:x==p0.1 with
  | true=>simp only[cZ]at hx;subst hx;exact⟨p0.2,rfl,aa⟩
  | false=>
   rcases am.mp h with q | h
   .cases q;simp at hx
   .exact aR (ih h) λc' Q=>(⟨c',Q.1,ac _ Q.2⟩)
theorem mem_of_lookup{α:Type} :∀{l:List (Str×α)}{x:Str}{c:α},l.lookup x=some c->(x,c)∈l:=by intro l x c h;induction l generalizing x c with
 | nil=>exact bz h
 | cons p0 l ih=>obtain⟨n,a⟩:=p0;rw[aU]at h;cases hx:x==n with
  | true=>rw[hx]at h;refine Er (bO h) ?_;simp only[cZ]at hx;subst hx;exact aa
  | false=>have h:=hx▸h;exact ac _<|ih h
theorem dT{env:Env}{k:NameKind}(hk:k≠ .free) :∀{names:List (Str×NameKind)}{x:Str},names.lookup x=some k->
  (names.map λ(n,k)=>if (k==NameKind.free&&env.scope.kind == .function&&env.kindOf n==some .cell) then(n,NameKind.cell) else(n,k)).lookup x=some k
 | [],_,h=>by simp at h
 | (n,k')::r,x,h=>by
  show List.lookup x ((if (k'==NameKind.free&&env.scope.kind == .function&&env.kindOf n==some .cell)=true then(n,NameKind.cell) else(n,k'))::_)=_
  cases hx:x==n with
  | true=>
   simp only[aU,hx]at h;cases h;have:(k==NameKind.free)=false:=by simpa using hk
   simp[aU,hx,this]
  | false=>
   simp only[aU,hx]at h;by_cases hc:(k'==NameKind.free&&env.scope.kind == .function&&env.kindOf n==some .cell)=true
   .rw[if_pos hc];simp only[aU,hx];exact(@dT env k hk r x) h
   .rw[if_neg hc];simp only[aU,hx];exact(@dT env k hk r x) h
theorem d9{env:Env} :∀{names:List (Str×NameKind)}{x:Str},names.lookup x=some .free->
  (names.map λ(n,k)=>if (k==NameKind.free&&env.scope.kind == .function&&env.kindOf n==some .cell) then(n,NameKind.cell) else(n,k)).lookup x=some .free\/
  (names.map λ(n,k)=>if (k==NameKind.free&&env.scope.kind == .function&&env.kindOf n==some .cell) then(n,NameKind.cell) else(n,k)).lookup x=some .cell
 | [],_,h=>by simp at h
 | (n,k')::r,x,h=>by refine Er ay ?_;cases hx:x==n with
  | true=>
   simp only[aU,hx]at h;refine Er (bO h) ?_;by_cases hc:(NameKind.free==NameKind.free&&env.scope.kind == .function&&env.kindOf n==some .cell)=true
   .right;show List.lookup x ((if _ then _ else _)::_)=_;refine Er (if_pos hc) ?_;simp only[aU,hx]
   .left;show List.lookup x ((if _ then _ else _)::_)=_;refine Er (if_neg hc) ?_;simp only[aU,hx]
  | false=>
   simp only[aU,hx]at h;show List.lookup x ((if _ then _ else _)::_)=_\/List.lookup x ((if _ then _ else _)::_)=_
   by_cases hc:(k'==NameKind.free&&env.scope.kind == .function&&env.kindOf n==some .cell)=true
   .refine Er (if_pos hc) ?_;simp only[aU,hx];exact(@d9 env r x) h
   .refine Er (if_neg hc) ?_;simp only[aU,hx];exact(@d9 env r x) h
theorem qi{p:Str×Nat->Bool} :∀{l:List (Str×Nat)}{x:Str}{i:Nat},(∀a b c,p (a,b)=p (a,c))->(l.filter p).lookup x=some i->l.lookup x=some i/\p (x,i)=true:=by intro l x i hp h;induction l generalizing x i hp with
 | nil=>exact bz h
 | cons p0 l ih=>
  obtain⟨n,j⟩:=p0;refine Er aU ?_;by_cases q:p (n,j)=true
  .have h:=(List.filter_cons_of_pos q)▸h;rw[aU]at h;cases hx:x==n with
   | true=>rw[hx]at h;refine Er (bO h).symm ?_;simp only[cZ]at hx;subst hx;exact⟨rfl,q⟩
   | false=>rw[hx]at h;exact ih hp h
  .rw[List.filter_cons_of_neg q]at h;obtain⟨h1,h2⟩:=ih hp h;cases hx:x==n with
   | true=>simp only[cZ]at hx;subst hx;have h2:=(hp x i j)▸h2;exact absurd h2 q
   | false=>exact⟨h1,h2⟩
theorem v7{l r:List (Str×Nat)}{x:Str} :(l++r).lookup x=some i->l.lookup x=some i\/r.lookup x=some i:=by induction l with
 | nil=>exact .inr
 | cons p l ih=>intro h;rw[iw,aU]at h;refine Er aU ?_;cases q:x==p.1 with
  | true=>rw[q]at h;exact .inl h
  | false=>rw[q]at h;exact ih h
theorem ur{l r:List (Str×Nat)}{x:Str} :l.lookup x=some i->(l++r).lookup x=some i:=by induction l with
 | nil=>intro h;exact bz h
 | cons p l ih=>intro h;rw[aU]at h;refine Er iw<|Er aU ?_;cases q:x==p.1 with
  | true=>rw[q]at h;exact h
  | false=>rw[q]at h;exact ih h
theorem yt{x:Str} :∀{O:Sd}{i k:Nat},O.Nodup->O[k]? = some x->(O.zipIdx i).lookup x=some (i+k):=by intro O i k nd h;induction O generalizing i k with
 | nil=>exact bz h
 | cons v O ih=>cases k with
  | zero=>refine Er (bO h) ?_;refine Er iu ?_;refine Er aU ?_;rw[beq_self_eq_true];rfl
  | succ k=>rw[bh]at nd;refine Er iu ?_;refine Er aU ?_;refine Er (iQ.mpr λe=>nd.1 (e▸aN (i:=k) h) :(x==v)=false) ?_;rw[cU k 1,<- dv];exact ih nd.2 h
theorem qh{x:Str} :∀{O:Sd}{i:Nat},(O.zipIdx i).lookup x=some j-> ∃k,j=i+k/\O[k]? = some x:=by intro O i h;induction O generalizing i with
 | nil=>exact bz h
 | cons v O ih=>rw[iu,aU]at h;cases q:x==v with
  | true=>rw[q]at h;exact Er (bO h)<|⟨0,rfl,by refine Er (cZ.mp q) ?_;rfl⟩
  | false=>rw[q]at h;exact aR (ih h) λk Q=>(⟨k+1,by exact(Le [j,i,k] (.e .x<|.a .y<|.p 1 .z) [Gp .x<|.a (.p 1 .y) .z] rfl Q.1),Q.2⟩)
noncomputable def qg(ls:Lay)(C:Addr)(i:Nat)(ns:Sd) :Lay:=λj=>if i<=j then(ns[j - i]?).map (Loc.dict C) else ls j
section
variable {ls:Lay}{C:Addr}{i j k:Nat}{ns:Sd}{v:Str}{l:Loc}
theorem rX(h:ns[k]? = some v) :qg ls C i ns (i+k)=some (.dict C v):=by
 show(if i<=i+k then(ns[i+k - i]?).map (Loc.dict C) else _)=_
 rw[if_pos<|aq i k,b3,h];rfl
theorem oW(hi:∀j l,ls j=some l->j<i)(h:ls j=some l) :qg ls C i ns j=some l:=(if_neg<|pR.mpr<|hi j l h).trans h
theorem g7(h:qg ls C i ns j=some l) :(∃k v,j=i+k/\ns[k]? = some v/\l = .dict C v)\/(j<i/\ls j=some l):=by
 have h:(if i<=j then(ns[j - i]?).map (Loc.dict C) else ls j)=some l:=h;by_cases q:i<=j
 .rw[if_pos q]at h;exact aR (aT.mp h) λv u=>.inl ⟨j - i,v,(cw q).symm,u.1,u.2.symm⟩
 .rw[if_neg q]at h;exact .inr ⟨pR.mp q,h⟩
end
structure lK(X:Cx)(scope:Scope)(ns:Sd)(i:Nat)(C:Addr) :Prop where
 ok:kg scope X.U ns
 hi:X.U.hi<=i
 nL:C≠X.L
 nl:∀j l,X.ls j=some l->l.addr≠C
section
variable {X:Cx}{scope:Scope}{ns:Sd}{i:Nat}{C:Addr}
theorem kg.cells(ok:kg scope X.U ns) :∀x∈scope.names,x.2 = .free-> ∃c,X.env.cells.lookup x.1=some c:=λx hx hf=>by
 obtain⟨h1,h0,⟨j,hj⟩,h3⟩:=ok.free x hx hf;rcases X.var x.1 j hj with⟨hk,_⟩ | ⟨_,c,hc,_⟩
 .rcases X.cf x.1 h3 with q | q <;> (rw[hk]at q;cases q)
 .exact⟨c,hc⟩
theorem lK.up(q:lK X scope ns i C) :∀j l,X.ls j=some l->j<i:=λj l h=>aV (X.hi j l h) q.hi
def pC(X:Cx)(I:List At)(q:lK X scope ns i C) :Cx where
 A:=X.A
 c:=X.c
 n:=X.n
 env:=compEnvC scope (DL X.env scope.names []) C X.env
 U:=gM scope X.U ns i
 L:=X.L
 ls:=qg X.ls C i ns
 J:=none
 si:=X.si
 K:=I++X.K
 gd:=X.gd
 cs:=X.cs
 wd:=X.wd
 dep:=X.dep
 un:=X.un
 un0:=X.un0
 hh:=X.hh
 stk:=aR X.stk λl h=>⟨l,h.1,λe he=>⟨(h.2 e he).1,aR (h.2 e he).2 λL u=>⟨L,u.1,u.2.imp id λq=>aR q λp q=>⟨p,aE _ q.1,q.2⟩⟩⟩⟩
 kind:=q.ok.kind
 glob:=X.glob
 blt:=X.blt
 frame:=X.frame
 top:=X.top
 hi:=λj l hl=>(g7 hl).elim (λu=>kL u λk v u=>by rw[u.1];exact fV (av.mp u.2.1).1 i) λu=>aV u.1<|aq _ _
 ap:=λj j' l l' hl hl' ne e=>by
  rcases g7 hl with⟨k,v,rfl,e1,rfl⟩ | ⟨_,hl⟩ <;> rcases g7 hl' with⟨k',v',rfl,e2,rfl⟩ | ⟨_,hl'⟩
  .refine⟨C,v,v',rfl,rfl,λz=>ne ?_⟩
   subst z;exact congrArg (i + ·)<|(List.getElem_inj (h₀:=(av.mp e1).1) (h₁:=(av.mp e2).1) q.ok.vnd).mp<|(av.mp e1).2.trans (av.mp e2).2.symm
  .exact absurd e.symm (q.nl _ _ hl')
  .exact absurd e (q.nl _ _ hl)
  .exact X.ap j j' l l' hl hl' ne e
 var:=λx j hx=>by
  unfold gM at hx
  rcases v7 hx with hx | hx
  .exact aR (qh hx) λk z=>.inl ⟨lookup_relabel_local<|q.ok.loc x<|aN z.2,by rw[z.1];exact rX z.2⟩
  .have Q:=qi (λj0_ j1_ j2_=>rfl) hx
   have hfree:scope.names.lookup x=some .free:=by simpa using Q.2
   have Y:=q.ok.free _ (mem_of_lookup hfree) rfl
   rcases X.var x j Q.1 with⟨hk,_⟩ | ⟨_,c,hc,hl⟩
   .rcases X.cf x Y.2.2.2 with q | q <;> (rw[hk]at q;cases q)
   .refine .inr ⟨(d9 (env:=X.env) hfree).elim (λq=>.inr ⟨q,Y.2.1⟩) .inl,c,?_,oW q.up hl⟩
    refine aR (Ie (env:=X.env) scope.names [] _ (mem_of_lookup hfree) rfl) λc1 hm=>aR (lc hm) λc2 z=>?_
    have:X.env.cells.lookup x=some c2:=Mb scope.names [] q.ok.cells (λp hp=>nomatch hp) _ z.2;rw[hc]at this;exact bO this▸z.1
 gl:=λx hx=>dT (by intro q;cases q) hx
 cf:=λx hx=>hx.elim (λhx=>.inl<|dT (by intro q;cases q) hx) λhx=>(d9 hx).symm
 ins:=λq=>absurd rfl q
 inj:=λj0_ j1_ j2_ h=>bz h
 an:=λh=>absurd rfl h
 nsi:=λh=>absurd rfl h
 asl:=λj0_ h=>nomatch h
 asn:=.nil
 sin:=λh=>absurd rfl h
end
def dA(C:Addr) :At where
 own:=λa=>a=C
 Y:=λj0_=>False
 ok:=λj0_ h=> ∃m,h.Ns C m
 st:=λj0_ k x=>Hy x λm o es ep x=>⟨m,o,es,ep,(k _ o x.1<|.inr rfl).elim id λf=>f.1.elim,x.2⟩
 lv:=λx w=>Hy x λm o j0_ j1_ x=>⟨o,w▸x.1⟩
 fn:=λj0_ h=>h.elim
section
variable {X:Cx}{scope:Scope}{ns:Sd}{i:Nat}{C:Addr}{O vs':bV}{Y:Fm}{T:List At}{s:Shared}{h':Heap}{tk:Nat}{Z:Ss}
theorem Fr.enter(q:lK X scope ns i C)(x:Fr X O Y T s)(hn:∀k v,ns[k]? = some v-> ∀sl,Y[i+k]? = some sl->sl = .no)(hC:s.heap.get? C=none)(kp:∀a o,s.heap.get? a=some o->h'.get? a=some o)(hm:h'.Ns C m) :
  Fr (pC X (iA X.J<|X.U.as.map O) q) (λj=>if i<=j/\j<i+ns.length then none else O j) Y T {s with heap:=h',toks:=tk}:=by
 refine⟨aR x.sat λZ y=>⟨Z,?_⟩,λj0_ j1_ j2_ h=>bz (show none=some _ from h)⟩;have e:Sk (λj=>if i<=j/\j<i+ns.length then none else O j) 0 Y=Sk O 0 Y:=hZ λj sl e n=>if_neg λu=>by rw[aX]at u;refine n<|hn (j - i) _ (aw<|(Nat.sub_lt_iff_lt_add' u.1).mpr u.2) sl (by rw[cw u.1];exact e)
 have b:=y.ok _ aa;have nC:∀p∈X.W O Y T, ¬p.own C:=λp hp w=>y.fresh hp w hC;have z:bD Z {s with heap:=h',toks:=tk} (bA X.L (qg X.ls C i ns) (λj=>if i<=j/\j<i+ns.length then none else O j)::(iA X.J (X.U.as.map O)++(Sk O 0 Y++(T++X.K)))):=
  bD.one (tk:=tk) y (λa o e j0_=>kp a o e) (λj0_ z=>z) (λj0_ z=>.inl z) ⟨aR b.1 λm u=>⟨m,m5 u λo es ep u=>⟨o,es,ep,kp _ _ u.1,u.2⟩⟩,λj l hl=>by
   rcases g7 hl with⟨k,v,rfl,e1,rfl⟩ | ⟨hj,hl⟩
   .exact⟨(λj0_ q=>nomatch q),⟨m,hm⟩,λv e=>bz<|(if_pos ⟨aq _ _,fV (av.mp e1).1 i⟩).symm.trans e⟩
   .have k':MT X.L s.heap h' l.addr:=λo e=>.inl<|kp _ o e;have u:=b.2 j l hl;exact⟨u.1,u.2.1.keeps k' u.1,λv e=>(u.2.2 v<|(if_neg λq=>pR.mpr hj q.1).symm.trans e).keeps k' u.1⟩⟩
   λa w=>by
    have old:(bA X.L X.ls O).own a->((bA X.L X.ls O).own a\/s.heap.get? a=none)/\ ¬Z a:=λw=>⟨.inl w,y.nz _ aa a w⟩
    rcases w with w | ⟨j,l,hl,rfl⟩
    .exact old (.inl w)
    .rcases g7 hl with⟨k,v,rfl,e1,rfl⟩ | ⟨hj,hl⟩
     .exact⟨.inr hC,λz=>aR (y.zl _ z) λo e=>by rw[show(Loc.dict C v).addr=C from rfl,hC]at e;exact bz e⟩
     .exact old (.inr ⟨j,l,hl,rfl⟩)
 show bD Z _ (bA X.L (qg X.ls C i ns) _::([]++(Sk _ 0 Y++(T++(iA X.J (X.U.as.map O)++X.K)))))
 rw[e];exact z.perm<|bp 5 [0,2,3,1,4] (by decide) [[_],iA X.J<|X.U.as.map O,Sk O 0 Y,T,X.K] rfl
theorem Fr.leave(q:lK X scope ns i C)(x:Fr (pC X (iA X.J<|X.U.as.map O) q) vs' Y T s)(slf:∀x o dx,X.J=some (x,o,dx)->O X.si=some (.ref x))(ag:∀j, ¬(i<=j/\j<i+ns.length)->vs' j=O j)(hn:∀k v,ns[k]? = some v-> ∀sl,Y[i+k]? = some sl->sl = .no)(h0:ns≠ []) :Fr X O Y (dA C::T) s:=by
 refine⟨aR x.sat λZ y=>⟨Z,?_⟩,slf⟩;have y:bD Z s (bA X.L (qg X.ls C i ns) vs'::([]++(Sk vs' 0 Y++(T++(iA X.J (X.U.as.map O)++X.K))))):=y;have e:Sk vs' 0 Y=Sk O 0 Y:=hZ λj sl e n=>ag _ λu=>by rw[aX]at u;exact n<|hn (j - i) _ (aw<|(Nat.sub_lt_iff_lt_add' u.1).mpr u.2) sl (by rw[cw u.1];exact e)
 rw[e]at y;have b:=y.ok _ aa;obtain⟨v0,e0⟩ :∃v,ns[0]? = some v:=by cases ns with | nil=>exact absurd rfl h0 | cons v _=>exact⟨v,rfl⟩
 have nz:=λa w=>y.nz _ aa a w;have wC:(bA X.L (qg X.ls C i ns) vs').own C:=.inr ⟨i+0,_,rX e0,rfl⟩;have wo:∀a,(bA X.L X.ls O).own a->(bA X.L (qg X.ls C i ns) vs').own a:=λa w=>w.imp id λw=>kL w λj l u=>⟨j,l,oW q.up u.1,u.2⟩
 have z:bD Z s ([bA X.L X.ls O,dA C]++([]++(Sk O 0 Y++(T++(iA X.J (X.U.as.map O)++X.K))))):=bD.chg (P:=[bA X.L (qg X.ls C i ns) vs']) (h':=s.heap) (tk:=s.toks) y ⟨λj0_ j1_ e j2_=>e,λj0_ z=>z,λj0_ z=>.inl z,
  λp hp=>(am.mp hp).elim (λe=>e▸⟨b.1,λj l hl=>have u:=b.2 j l<|oW q.up hl;⟨u.1,u.2.1,λv e=>u.2.2 v<|(ag j λw=>bM.mpr w.1<|q.up j l hl).trans e⟩⟩) λhp=>aJ.mp hp▸(b.2 _ _<|rX e0).2.1,
  .cons (λp hp a w v=>by rw[aJ.mp hp]at v;obtain rfl:a=C:=v;exact w.elim (λw=>q.nL w) λw=>kL w λj l u=>q.nl j l u.1 u.2) (.cons (λj0_ h=>nomatch h) .nil),
  λp hp a w=>(am.mp hp).elim (λe=>by subst e;exact⟨.inl<|Bm.mpr<|wo a w,nz a<|wo a w⟩) λhp=>by rw[aJ.mp hp]at w;obtain rfl:a=C:=w;exact⟨.inl<|Bm.mpr wC,nz _ wC⟩⟩
 unfold Cx.W;exact z.perm<|bp 6 [0,4,2,1,3,5] (by decide) [[bA X.L X.ls O],[dA C],Sk O 0 Y,T,iA X.J<|X.U.as.map O,X.K] rfl
theorem Fr.gone(x:Fr X O Y (dA C::T) s)(kp:∀b o,b≠C->s.heap.get? b=some o->h'.get? b=some o) :Fr X O Y T {s with heap:=h',toks:=tk}:=⟨gh.drop (P:=[eA])<|aR x.sat λZ y=>⟨Z,bD.one (tk:=tk) (y.perm<|g8 (P:=[_]) ..) (λa o e n=>kp a o n e) (λj0_ z=>z) (λj0_ z=>.inl z) trivial λj0_ h=>h.elim⟩,x.slf⟩
end
inductive IB(X:Cx) :Sn->Sg->Prop
 | nil:IB X [] []
 | cons {x:Str} {p:Pos} {i:Nat} {es:Sn} {is:Sg} :X.U.vars.lookup x=some i->X.env.kindOf x≠some .free->IB X es is->IB X (.Name x p::es) (i::is)
inductive TN(X:Cx) :Expr->ja->Prop
 | one {x:Str} {p:Pos} {i:Nat} :X.U.vars.lookup x=some i->X.env.kindOf x≠some .free->TN X (.Name x p) (.one i)
 | tup {es:Sn} {is:Sg} {k:Nat} {p:Pos} :IB X es is->TN X (.Tuple es k p) (.tup is)
abbrev zs(ws:Si)(V:Sb) :List At:=List.zipWith (λw d=>zA (some w) d) ws V
section
variable {X:Cx}{O:bV}{Y aP:Fm}{T K:List At}{s:Shared}{v:Value}{Z:Ss}{Q:Unit->Shared->Prop}{E:Sr}{g:Expr}{t:ja}
theorem Fr.mid{P P':List At}(x:Fr X O Y (P++(P'++T)) s) :Fr X O Y (P++T) s:=by rw[<- ah]at x;exact Fr.map x λR y=>y.sub<|List.Sublist.append_right (List.sublist_append_left _ _) _
theorem bD.vals(y:bD Z s K)(r:RepAll s.heap Z ws V) :bD Z s (zs ws V++K):=by induction ws generalizing V with
 | nil=>cases r;exact y
 | cons w ws ih=>cases r with | cons r rs=>exact(ih rs).val r
theorem IB.len{is:Sg}(t:IB X es is) :(assignEach es X.env).length=is.length/\(assignEach es X.env).findIdx? (·.1)=none:=by induction t with
 | nil=>exact⟨rfl,rfl⟩
 | cons _ _ _ t=>refine⟨congrArg (· + 1) t.1,?_⟩;refine Er (List.findIdx?_cons) ?_;simp[t.2]
theorem D7:∀{is:Sg}{V:Sb}{Y aP:Fm},qw pin Y is V=some aP->is.length=V.length:=by intro is V Y aP h;induction is generalizing V Y aP with
 | nil=>cases V with
  | nil=>exact rfl
  | cons x1 x2=>exact bz h
 | cons i is ih=>cases V with
  | nil=>exact bz h
  | cons d V=>
    have h:(if pin.contains i then none else qw pin (Y.set i<|.fz d) is V)=some aP:=h;by_cases q:pin.contains i=true
    .rw[if_pos q]at h;exact bz h
    .rw[if_neg q]at h;exact congrArg (· + 1)<|ih h
theorem D6:∀{is:Sg}{V:Sb}{Y aP:Fm},qw pin Y is V=some aP-> ∀i∈is,i∉pin:=by intro is;induction is with
 | nil=>exact λj0_ j1_ h=>nomatch h
 | cons i is ih=>intro V Y aP h j hj;cases V with
  | nil=>exact bz h
  | cons d V=>have h:=pZ (show(if pin.contains i then none else qw pin (Y.set i<|.fz d) is V)=some aP from h);exact(am.mp hj).elim (λe=>e▸λz=>h.1<|bJ.mpr z) λhj=>ih h.2 j hj
set_option tactic.hygienic true in
theorem ve{is:Sg}(h:asgT pin Y (.tup is) r=some aP) :∃V,gU r=some (.tuple V)/\qw pin Y is V=some aP:=by
 have h:(match gU r with | some (.tuple V)=>qw pin Y is V | _=>none)=some aP:=h;split at h
 .rename_i V hd;exact⟨V,hd,h⟩
 .exact bz h
theorem kb(h:asgT pin Y t r=some aP) :∀i∈bX t,i∉pin:=by cases t with
 | one i=>exact λj hj z=>(pZ h).1<|bJ.mpr<|aJ.mp hj▸z
 | tup is=>exact aR (ve h) λV u=>D6 u.2
theorem yY:∀{es:Sn}{is:Sg},IB X es is-> ∀{ws:Si}{V:Sb}{O:bV}{Y:Fm}{s:Shared},ws.length=V.length->qw X.c.pin Y is V=some aP->Fr X O Y (zs ws V++T) s->
  (∀vs' s',(∀j,j∉is->vs' j=O j)->Fr X vs' aP T s'->Q () s')->wpAny (model prog w) X.A (assignInOrder ((assignEach es X.env).map (·.2)) ws) Q E s:=by
 intro es is t;induction t with
 | nil=>intro ws V O Y s l h y K;cases V with
  | nil=>cases ws with | nil=>exact assignInOrder_nil (K O s (λj0_ j1_=>rfl)<|bO h▸y) | cons=>exact nomatch l
  | cons d V=>exact bz h
 | @cons _ _ i _ is hx hf t ih=>
  intro ws V O Y s l h y K;cases V with
  | nil=>exact bz h
  | cons d V=>
  cases ws with
  | nil=>exact nomatch l
  | cons u ws=>have h:=pZ (show(if X.c.pin.contains i then none else qw X.c.pin (Y.set i<|.fz d) is V)=some aP from h);exact assignInOrder_cons<|wpAny_assign_Name<|oy (r:=.fz d) y hx hf (if_neg h.1) λs' z=>ih (be l) h.2 z λvs' s'' ag z=>K vs' s'' (λj hj=>(ag j λq=>hj<|ac _ q).trans<|gP λq=>hj<|q▸aa) z
theorem Fr.grow{tk:Nat}(x:Fr X O Y T s)(k:∀a o,s.heap.get? a=some o->h'.get? a=some o) :Fr X O Y T {s with heap:=h',toks:=tk}:=Fr.push (P':=[]) x λj0_ y=>y.grow k
theorem rM(hh:t.isTup=true->X.A.handled=none)(tn:TN X g t)(he:asgT X.c.pin Y t r=some aP)(x:Fr X O Y (tA r v++T) s)(K:∀vs' s',(∀j,j∉bX t->vs' j=O j)->Fr X vs' aP T s'->Q () s') :wpAny (model prog w) X.A (assign g X.env v) Q E s:=by cases tn with
 | one hx hf=>exact wpAny_assign_Name<|oy x hx hf he λs' z=>K _ s' (λj hj=>gP λq=>hj<|q▸aa) z
 | tup t=>refine aR (ve he) λV u=>?_;have x:=x.frzT;rw[jn u.1]at x;obtain⟨Z,y⟩:=x.sat;have r:=dW.dz y<|em aa;cases r with
  | @tuple a ws n V z ht hn R=>exact assign_Tuple_tuple (hh rfl) ⟨_,ht,rfl,_,rfl⟩ (Er t.len.1<|Er (D7 u.2)<|Er ax<|Er R.length rfl) t.len.2 λh' ext=>yY (s:= {s with heap:=h'}) t R.length u.2 (Fr.grow (tk:=s.toks) (Fr.mid (P:=zs ws V) ⟨n5 ⟨Z,y.vals R⟩,x.slf⟩) λb o e=>ext b o (bW<|br e) e) K
end
section
variable {A:Around}{env:Env}{s:Shared}
theorem tR{Q:Bool->Shared->Prop} :∀{gQ:Sn},Q false s->
  wpAny (model prog w) A (forIn gQ false λc r=>if r=true then do let ok <- isTrue c env (eval c env);pure (ForInStep.yield ok) else pure (ForInStep.yield r)) Q E s:=by
 intro es h;induction es generalizing h with
 | nil=>exact au h
 | cons e es ih=>simp only[jc,gz,if_false];exact ae<|au<|ih h
end
inductive PB(X:Cx)(O:bV)(T:List At)(out:Se Bool×Fm)(b:Bool)(s':Shared) :Prop
 | mk:out.1 = .ok b->Fr X O out.2 T s'->PB X O T out b s'
section
variable {X:Cx}{O:bV}{Y aP:Fm}{T K:List At}{s:Shared}
theorem nM:∀{gQ:Sn}{conds:List Ex},F2 (λe x=>ST X (isTrue e X.env<|eval e X.env)<|ev X.c x) gQ conds-> ∀(O:bV)(T:List At)(s:Shared)(Y:Fm)(out:Se Bool×Fm),evConds X.c conds Y=some out->Fr X O Y T s->
  wpAny (model prog w) X.A (forIn gQ true λc r=>if r=true then do let ok <- isTrue c X.env (eval c X.env);pure (ForInStep.yield ok) else pure (ForInStep.yield r)) (PB X O T out) (PX X O T out) s:=by
 refine F2.rec' (M:=λgQ conds=> ∀(O:bV)(T:List At)(s:Shared)(Y:Fm)(out:Se Bool×Fm),evConds X.c conds Y=some out->Fr X O Y T s->
  wpAny (model prog w) X.A (forIn gQ true λc r=>if r=true then do let ok <- isTrue c X.env (eval c X.env);pure (ForInStep.yield ok) else pure (ForInStep.yield r)) (PB X O T out) (PX X O T out) s) (λO T s Y out h y=>au<|bO h▸⟨rfl,y⟩) λ{e es x S} H F ih O T s Y out h y=>?_
 rw[sS]at h;simp only[jc,if_true];refine ae<|ae<|AX h (λr aP h=>aR (cE h) λd z=>⟨_,z.1⟩) (λu e hd=>H O T s Y u e hd y) λr d bQ aM h hd bE=>au ?_;rw[hd,BM]at h;cases ht:tD d with
 | true=>rw[ht,if_pos rfl]at h;exact ih O T aM bQ out h bE
 | false=>rw[ht,if_neg gy]at h;exact tR<|bO h▸⟨rfl,bE⟩
end
section
variable {A:Around}{env:Env}{s:Shared}
theorem CG.vars{O:Sd}{t:ja}(h:CG i g O t)(h1:i<=j)(h2:j<i+O.length) :j∈bX t:=by cases h with
 | one=>exact aJ.mpr<|dM (rB h2) h1
 | two=>
  rcases Nat.eq_or_lt_of_le h1 with q | q
  .exact q▸ .head _
  .exact ac _ (aJ.mpr<|dM (rB h2) q)
theorem CG.gok{O:Sd}{t:ja}(h:CG i g O t)(hz:it.pairs=true->t.isTup=true) :MV it g:=λq=>by cases h with
 | one=>cases hz q
 | two=>exact⟨_,_,_,rfl⟩
theorem wV{elt target iter:Expr}{gQ:Sn}{R:Result->Shared->Prop}(I:Nat->Shared->Prop)
  (turn:∀n s,I n s->wpAny (model prog w) A (pyNext it) (λr aM=>match r with
   | none=>R (.ok .next) aM
   | some v=>wpAny (model prog w) A (letOwnedTupleGo target it v) (λj0_ aM=>wpAny (model prog w) A (assign target env v) (λj0_ bC=>
     wpAny (model prog w) A (forIn gQ true λc r=>if r=true then do let ok <- isTrue c env (eval c env);pure (ForInStep.yield ok) else pure (ForInStep.yield r)) (λok gJ=>
      if ok=true then wpAny (model prog w) A (eval elt env) (λx vx=>
       wpAny (model prog w) A (call (.builtin "list.append") [SK,x]) (λj0_ yF=> ∃m,m < n/\I m yF) (notedBy (model prog w) A env λe s'=>R (.error e) s') vx) (notedBy (model prog w) A env λe s'=>R (.error e) s') gJ
      else ∃m,m<n/\I m gJ) (notedBy (model prog w) A env λe s'=>R (.error e) s') bC) (notedBy (model prog w) A env λe s'=>R (.error e) s') aM) (notedBy (model prog w) A env λe s'=>R (.error e) s') aM) (notedBy (model prog w) A env λe s'=>R (.error e) s') s)
  (n:Nat) (h:I n s) :codeAny (model prog w) A (.compLoop (.ListComp elt [⟨target,iter,gQ,0⟩] scope pos) 0 it SK env) R s:=by
 refine codeAny_loop rfl I (λn s hI=>?_) n h;show wpAny _ A ((compTurn (.ListComp elt [⟨target,iter,gQ,0⟩] scope pos) 0 it SK env).onRaise (λx=>do noteFrame x env;theTreesLotGoes x)) _ _ s
 refine wpAny_noted ?_;rw[compTurn_list];refine ae<|wpAny_standAt<|ae<|aK (turn n s hI) (λr aM h₁=>?_) λj0_ j1_ h'=>h';cases r with
 | none=>exact au h₁
 | some v=>refine ae<|aK h₁ (λj0_ bC h₁=>ae<|aK h₁ (λj0_ bC eO=>ae<|aK eO (λok gJ j0=>?_) λj0_ j1_ h'=>h') λj0_ j1_ h'=>h') λj0_ j1_ h'=>h';cases ok with
  | false=>exact au ⟨rfl,j0⟩
  | true=>exact ae<|ae<|aK j0 (λx vx Lu=>ae<|aK Lu (λj0_ yF uC=>au<|au ⟨rfl,uC⟩) λj0_ j1_ h'=>h') λj0_ j1_ h'=>h'
end
section
variable {X:Cx}{O vs0:bV}{Y:Fm}{T:List At}{s:Shared}{it:kZ}{SJ:Sb}{ow:List Addr}{Da:Addr}{x:Ex}{t:ja}{conds:List Ex}{out:Se Rv×Fm}{g elt iter:Expr}{gQ:Sn}{scope:Scope}{pos:Pos}
theorem Fr.app{d:D}{v:Value}{Q:Sr}(x:Fr X O Y (oA (some (.ref Da)) (.list S) :: (zA (some v) d :: T)) s)(hl:S.length < Sz)(k:∀u s',Fr X O Y (oA (some (.ref Da)) (.list (S ++ [d])) :: T) s'->Q u s') :wpAny (model prog w) X.A (call (.builtin "list.append") [.ref Da,v]) Q E s:=by obtain⟨Z,y⟩:=x.sat;have r:=dW.dz y (em (ac _ aa));obtain⟨a,e,q⟩:=eR.dz y (em aa);cases e;cases q with
 | @list ws n _ g l RA=>refine wpAny_list_append_plain (hsz:=by rw[ax,<- dR,RA.length];exact oa hl) ⟨_,g⟩ λh' hp G=>k _ _ ?_;have kp:∀b o,b≠Da->s.heap.get? b=some o->h'.get? b=some o:=λb o q e=>G.extBut b o q e;have kz:∀b o,Z b->s.heap.get? b=some o->h'.get? b=some o:=λb o z e=>kp b o (λq=>y.nz _ (em aa) b (by rw[q];rfl) z) e;obtain⟨n',hp⟩:=hp;exact Fr.mid (P:=[_]) (P':=[_])<|x.own (tk:=s.toks) y kp<|.list (O:=ws++[v]) (n:=n') (by simpa using hp) (by rw[aj,RA.length];exact hl)<|(RA.mono kz λj0_ z=>z).append<|.cons (r.mono kz λj0_ z=>z) .nil
inductive MO(X:Cx)(vs0:bV)(T:List At)(W:Wk X.A it SJ)(ow:List Addr)(Da:Addr)(x:Ex)(t:ja)(conds:List Ex)(out:Se Rv×Fm)(m:Nat)(s':Shared) :Prop
 | mk (k:Nat) (O:bV) (Y:Fm) (ds0:Sb) :m=SJ.length+1 - k->k<=SJ.length->ds0.length<=k->(∀j,j∉bX t->O j=vs0 j)->Fr X O (clr Y<|bX t) (wA W ow k::(oA (some<|.ref Da) (.list ds0)::T)) s'->
   va (bX t) (dC X.c Y x t conds<|SJ.drop k) (λds1 Y=>some (.ok<|.own<|.list<|ds0++ds1,Y))=some out->MO X vs0 T W ow Da x t conds out m s'
theorem zY{R:Result->Shared->Prop}(hh:X.A.handled=none)(tn:TN X g t)(gk:MV it g)(hX:SE X (eval elt X.env) (ev X.c x))(hC:F2 (λe x=>ST X (isTrue e X.env<|eval e X.env)<|ev X.c x) gQ conds)(W:Wk X.A it SJ)(hlen:SJ.length<=Sz)
  (y:Fr X vs0 (clr Y<|bX t) (wA W ow 0::(oA (some<|.ref Da) (.list [])::T)) s) (h:va (bX t) (dC X.c Y x t conds SJ) (λV Y=>some (.ok<|.own<|.list V,Y))=some out)
  (KE:∀O nm f e s',out=(.error nm,clr f<|bX t)->(∀j,j∉bX t->O j=vs0 j)->PY X O T out e s'->R (.error e) s')
  (K:∀O V f s',out=(.ok<|.own<|.list V,clr f<|bX t)->(∀j,j∉bX t->O j=vs0 j)->Fr X O (clr f<|bX t) (oA (some<|.ref Da) (.list V)::T) s'->R (.ok .next) s') :
  codeAny (model prog w) X.A (.compLoop (.ListComp elt [⟨g,iter,gQ,0⟩] scope pos) 0 (.ref W.I) (.ref Da) X.env) R s:=by
 refine wV (MO X vs0 T W ow Da x t conds out) ?_ (SJ.length+1) ⟨0,vs0,Y,[],rfl,ba _,ba _,λj0_ j1_=>rfl,y,by rw[km];exact h⟩;clear h y;rintro m s' ⟨k,O,Y,ds0,rfl,hk,hdl,ag,y,h⟩;by_cases hkl:k<SJ.length
 .have hd:=aw hkl;rw[List.drop_eq_getElem_cons hkl,wX]at h;generalize SJ[k]=d at hd h;refine y.next gk hd (λj0_ j1_ p=>p) λv aM eK=>?_;clear y hd;rcases he:asgT X.c.pin (clr Y<|bX t) t (.fz d) with _ | bQ
  .rw[he]at h;exact bz h
  rw[he,BM]at h;refine rM (r:=.fz d) (λj0_=>hh) tn he eK λjI bC ll jC=>?_;clear eK he;have ll:∀j,j∉bX t->jI j=vs0 j:=λj hj=>(ll j hj).trans<|ag j hj;have fail:∀{β:Type}{nm:Str}{f:Fm}{e:Value}{s':Shared},out=(.error nm,clr f<|bX t)->PX X jI (wA W ow (k+1)::(oA (some<|.ref Da) (.list ds0)::T)) ((.error nm:Se β),f) e s'->notedBy (model prog w) X.A X.env (λe s'=>R (.error e) s') e s':=
   λho p=>PX.note (PX.clr<|PX.to (P:=[_,_]) (γ:=Rv) p) λs'' p=>KE jI _ _ _ _ ho ll (by rw[ho];exact p)
  rcases hcv:evConds X.c conds bQ with _ | ⟨e7 | b,aP⟩
  .rw[hcv]at h;exact bz h
  .rw[hcv]at h;exact aK (nM hC jI _ bC bQ _ hcv jC) (λb gJ p=>by obtain⟨q,_⟩:=p;exact on q) λj0_ j1_ p=>fail (bO h).symm p
  rw[hcv]at h;refine aK (nM hC jI _ bC bQ _ hcv jC) (λb' gJ p=>?_) λj0_ j1_ p=>p.no;obtain⟨q,oJ⟩:=p;obtain rfl:=ky q;clear jC hcv;rw[lH]at h;have next:∀{s':Shared}{f:Fm}{ds1:Sb},ds1.length<=k+1->Fr X jI f (wA W ow (k+1)::(oA (some<|.ref Da) (.list ds1)::T)) s'->va (bX t) (dC X.c f x t conds<|SJ.drop<|k+1) (λV Y=>some (.ok<|.own<|.list<|ds1++V,Y))=some out-> ∃m,m<SJ.length+1 - k/\MO X vs0 T W ow Da x t conds out m s':=
   λhl y h=>⟨_,tM hk,k+1,jI,_,_,rfl,hkl,hl,ll,y.clr _,h⟩
  cases b with
  | false=>rw[if_neg gy]at h |-;exact next (Nat.le_succ_of_le hdl) oJ h
  | true=>
   rw[if_pos rfl]at h |-;rcases hev:ev X.c x aP with _ | ⟨e8 | r,i4⟩
   .rw[hev]at h;exact bz h
   .rw[hev]at h;exact aK (hX jI _ gJ aP _ hev oJ) (λv vx p=>by obtain⟨_,q,_⟩:=p;exact on q) λj0_ j1_ p=>fail (bO h).symm p
   rw[hev]at h;rw[lH]at h;refine aK (hX jI _ gJ aP _ hev oJ) (λv vx p=>?_) λj0_ j1_ p=>p.no;obtain⟨r',q,_,yw⟩:=p;obtain rfl:=ky q;cases hr:gU r with
   | none=>rw[hr]at h;exact bz h
   | some d'=>
    rw[hr]at h;have yw:=yw.frzT;rw[jn hr]at yw;refine(yw.perm<|bp 4 [2,0,1,3] (by decide) [[_],[_],[_],T] rfl).app (aL hdl<|aV hkl hlen) λu yF Ar=>next (by rw[aj];exact dh hdl) (Ar.perm<|bp 3 [1,0,2] (by decide) [[_],[_],T] rfl) ?_;rcases hcb:dC X.c i4 x t conds (SJ.drop<|k+1) with _ | ⟨_ | ds1,f⟩
    .rw[hcb]at h;exact bz h
    .rw[hcb]at h;exact h
    .rw[hcb]at h;refine Eq.trans ?_ h;show some ((Except.ok (Rv.own<|.list<|ds0++[d']++ds1) :Se Rv),f)=some (Except.ok<|Rv.own<|.list (ds0++d'::ds1),f)
     rw[ah];rfl
 .obtain rfl:k=SJ.length:=dM hk<|bM.mp hkl;rw[List.drop_length,cI]at h;have hout:=(bO h).symm;rw[aI]at hout;exact y.done λs' y=>K O ds0 Y s' hout ag y
end
section
variable {X:Cx}{O vs0:bV}{Y:Fm}{T:List At}{s s':Shared}{it:kZ}{x:Ex}{t:ja}{src conds:List Ex}{out:Se Rv×Fm}{g elt iter:Expr}{gQ:Sn}{scope:Scope}{pos pos':Pos}{ns:Sd}{i:Nat}{C:Addr}
theorem PY.pass{e:Value}{out:Se β×Fm}{Q:α->Shared->Prop}(x:PY X O T out e s')(k:∀s'',PX X O T out e s''->E e s'') :wpAny (model prog w) X.A (PySem.passOn what e env:Sem α) Q E s':=by have x':=x;obtain⟨nm,a,P,q,rfl,t,_⟩:=x';unfold PySem.passOn;exact ae<|t.tb λT=>Er (if_neg (show ¬(Value.ref T==Value.none)=true from by simp))<|ae<|x.fly λs'' p=>wpAny_throw<|k s'' p.px
theorem CG.rng(h:CG i g ns t)(hj:j∈bX t) :i<=j/\j<i+ns.length:=by cases h with
 | one=>rw[aJ.mp hj];exact⟨aQ _,dZ _⟩
 | two=>exact(am.mp hj).elim (λe=>e▸⟨aQ _,Nat.lt_add_of_pos_right<|Nat.zero_lt_succ _⟩) λe=>aJ.mp e▸⟨rA _,dZ _⟩
theorem CG.tn(h:CG i g ns t)(q:lK X scope ns i C) :TN (pC X I q) g t:=by
 have hv:∀k v,ns[k]? = some v->(pC X I q).U.vars.lookup v=some (i+k)/\(pC X I q).env.kindOf v≠some .free:=λk v e=>⟨ur<|yt q.ok.vnd e,by rw[show(pC X I q).env.kindOf v=some .local from lookup_relabel_local<|q.ok.loc v<|aN e];exact λq=>nomatch q⟩
 cases h with
 | one=>exact .one (hv 0 _ rfl).1 (hv 0 _ rfl).2
 | two=>exact .tup<|.cons (hv 0 _ rfl).1 (hv 0 _ rfl).2<|.cons (hv 1 _ rfl).1 (hv 1 _ rfl).2 .nil
theorem NQ{h h':Heap}{m:Str->So}(hm:h.Ns C m)(kp:∀b o,b≠C->h.get? b=some o->h'.get? b=some o) :∀b o O,o.data = .fields O->h.get? b=some o->h'.get? b=some o:=λb o O hd e=>kp b o (λq=>m5 hm λo' j0_ j1_ u=>by rw[q,u.1]at e;obtain rfl:=bO e;have:=u.2.1;rw[hd]at this;exact nomatch this) e
theorem Fr.dns(x:Fr X O Y (dA C::T) s) :∃m,s.heap.Ns C m:=aR x.sat λZ y=>y.ok _<|em aa
theorem pB{use:Option (Value->Sem Unit)}{Q:Sr}{E:Sr}(cg:CG i g ns t)(hz:it.pairs=true->t.isTup=true)(ok:kg scope X.U ns)(hi:X.U.hi<=i)(hI:SI X (eval iter X.env) it (evs X.c src))(hfold:∀v,foldedSetIterable iter X.env v=pure v)
  (hX:∀X':Cx,X'.U=gM scope X.U ns i->SE X' (eval elt X'.env) (ev X'.c x)) (hC:∀X':Cx,X'.U=gM scope X.U ns i->F2 (λe x=>ST X' (isTrue e X'.env<|eval e X'.env)<|ev X'.c x) gQ conds)
  (h:ev X.c (.comp x t it src conds) Y=some out) (y:Fr X O Y T s) (hE:∀e s',PX X O T out e s'->E e s')
  (K:∀Da C V fr' s',out=(.ok<|.own<|.list V,fr')->Fr X O fr' (dA C::(oA (some<|.ref Da) (.list V)::T)) s'->compPost (model prog w) X.A E use Q (.ref Da) C (.ok .next) s') :
  wpAny (model prog w) X.A (comprehension (.ListComp elt [⟨g,iter,gQ,0⟩] scope pos) scope X.env pos' (newList []) false (eval iter X.env) use) Q E s:=by
 rw[HA]at h;have hg:=pZ h;have hh:=X.hh<|bK.mpr hg.1;have h:=hg.2;refine wpAny_comprehension_free (use:=use) rfl hfold (n4 ok.cells) ok.kind ok.names ?_;rcases dD h with⟨e,f,hm,rfl⟩ | ⟨rs,bQ,hm,h⟩
 .refine aK (hI hh O T s Y _ hm (λrs q=>on q) y) (λx aM p=>aK p (λitv bC p=>?_) λj0_ j1_ x=>hE _ _<|PX.to (P:=[]) x) λj0_ j1_ x=>hE _ _<|PX.to (P:=[]) x;obtain⟨_,_,_,_,_,q,_⟩:=p;exact on q
 refine aR (cE h) λV z1=>aR (cE z1.2) λSJ z2=>?_;refine aK (hI hh O T s Y _ hm (λrs q=>ky q▸⟨V,SJ,z1.1,z2.1⟩) y) (λxv aM p=>aK p (λitv bC p=>?_) λj0_ j1_ x=>x.no) λj0_ j1_ x=>x.no;obtain ⟨rs',ds',items',W,ow,q,hds,hit,hlen,rfl,y⟩:=p;obtain rfl:=ky q;rw [z1.1] at hds; obtain rfl:=bO hds;rw [z2.1] at hit; obtain rfl:=bO hit;have h:=z2.2;have y:=y.clr (bX t);dsimp only at y;refine cc (wpAny_newFunctionEnv ok.cell (by intro z hz; exact nomatch hz) (λh₁ hns hsb=>?_) ok.kind);dsimp only at hns hsb |-;have y:Fr X O (clr bQ (bX t)) (oA (some (.ref bC.heap.objs.size)) (.list []) :: (wA W ow 0 :: T)) {bC with heap:=bC.heap.push {cls:=.type "list",dict:=none,data:=.seq ([] :Si).toArray}}:=⟨n5 (P:=[_]) (aR y.sat λZ y=>(Op.newL (O:=[]) (V:=[]) .nil (ba _)).sat y),y.slf⟩
 have old:∀b o,(bC.heap.push {cls:=.type "list",dict:=none,data:=.seq ([] :Si).toArray}).get? b = some o->h₁.get? b = some o:=λb o e=>hsb.extBut b o (bW (br e)) (bP _ e);generalize hH:bC.heap.push {cls:=.type "list",dict:=none,data:=.seq ([] :Si).toArray} = H at hns hsb y old |-;generalize bC.heap.objs.size=Da at y |-;have nC:H.get? H.objs.size=none:=ya _;generalize H.objs.size=C at hns hsb nC |-;have q:lK X scope ns i C:=by obtain⟨Z,z⟩:=y.sat;exact⟨ok,hi,λq=>z.fresh aa (a:=X.L) (.inl rfl) (q▸nC),λj l hl q=>z.fresh aa (a:=l.addr) (.inr ⟨j,l,hl,rfl⟩) (q▸nC)⟩
 have cn:∀{f:Fm} k v,ns[k]? = some v-> ∀sl,(clr f<|bX t)[i+k]? = some sl->sl = .no:=λk v e sl h=>wY (cg.vars (aq _ _)<|fV (av.mp e).1 i) h;have y:=(y.perm<|bp 3 [1,0,2] (by decide) [[_],[_],T] rfl).enter (tk:=bC.toks+([] :Sq).length) q cn nC old hns;have n0:ns≠ []:=by cases cg <;> exact λq=>nomatch q
 have slf:=y.slf;have loop:=zY (X:=pC X (iA X.J<|X.U.as.map O) q) (scope:=scope) (pos:=pos) (iter:=iter) (R:=compPost (model prog w) X.A E use Q (.ref Da) C) hh (cg.tn q) (cg.gok hz) (hX _ rfl) (hC _ rfl) W hlen y h (λvs' nm f e s' ho ag p=>?_) λvs' V f s' ho ag y=>?_
 .exact codeAny_compStart_list loop (aR y.sat λZ y=>W.self 0 _ _ _ (y.ok (wA W ow 0)<|em aa).1 loop)
 .have ag':∀j, ¬(i<=j/\j<i+ns.length)->vs' j=O j:=λj hj=>(ag j λm=>hj<|cg.rng m).trans<|if_neg hj;have p':=p;obtain⟨nm',a,P,e1,rfl,tr,y⟩:=p';have y:=y.leave q ‹Fr X O Y T s›.slf ag' (by rw[ho];exact cn) n0;obtain⟨m,hm⟩:=y.dns;refine⟨m,hm,λh' sb cenv j0_=>?_⟩;have kp:∀b o,b≠C->s'.heap.get? b=some o->h'.get? b=some o:=λb o q e=>sb.extBut b o q e;exact PY.pass (X:=X) ⟨nm',a,P,e1,rfl,tr.mono (NQ hm kp) λj0_ p=>p,y.gone (tk:=s'.toks) kp⟩ λs'' p=>hE _ _ p
 .exact K Da C V _ s' ho (y.leave q ‹Fr X O Y T s›.slf (λj hj=>(ag j λm=>hj<|cg.rng m).trans<|if_neg hj) cn n0)
theorem Ft(cg:CG i g ns t)(hz:it.pairs=true->t.isTup=true)(ok:kg scope X.U ns)(hi:X.U.hi<=i)(hI:SI X (eval iter X.env) it (evs X.c src))(hfold:∀v,foldedSetIterable iter X.env v=pure v)
  (hX:∀X':Cx,X'.U=gM scope X.U ns i->SE X' (eval elt X'.env) (ev X'.c x)) (hC:∀X':Cx,X'.U=gM scope X.U ns i->F2 (λe x=>ST X' (isTrue e X'.env<|eval e X'.env)<|ev X'.c x) gQ conds) :
  SE X (eval (.ListComp elt [⟨g,iter,gQ,0⟩] scope pos) X.env) (ev X.c<|.comp x t it src conds):=by
 intro O T s Y out h y;rw[eval_ListComp];refine pB (use:=none) cg hz ok hi hI hfold hX hC h y (λj0_ j1_ x=>x) λDa C V fr' s' ho y=>?_;subst ho;exact aR y.dns λm hm=>⟨m,hm,λh' G=>⟨_,rfl,trivial,y.gone (tk:=s'.toks) λb o q e=>G.extBut b o q e⟩⟩
end
theorem Po:tb.an.length<=sizeLine:=by rw[sizeLine_eq];exact(by decide:8<=16777216)
theorem Pn:tb.an.Nodup:=by decide
section
variable {X:Cx}{O:bV}{Y aP:Fm}{T:List At}{s:Shared}{i:Nat}{v:Value}{Z:Ss}{Q:Unit->Shared->Prop}{E:Sr}{x a:Str}{pos p:Pos}{px dx:Addr}{o:Obj}
theorem vU{α:Type}{l:List α}{i j:Nat}{a:α}(nd:l.Nodup)(h1:l[i]? = some a)(h2:l[j]? = some a) :i=j:=(List.getElem_inj (h₀:=(av.mp h1).1) (h₁:=(av.mp h2).1) nd).mp<|(av.mp h1).2.trans (av.mp h2).2.symm
theorem qG(y:Fr X O Y T s)(hJ:X.J=some (px,o,dx))(hx:X.U.isA x a i)(hn:∀sl,Y[i]? = some sl->sl = .no)(h:∀s',Fr X (upd O i v) Y T s'->Q () s') :wpAny (model prog w) X.A (setAttr (.ref px) a v) Q E s:=by
 have I:=X.inj _ _ _ hJ;have n0:=(X.ins hx.ne).1;obtain⟨c,C,hcr,hC,hcl⟩:=I.cls;obtain⟨C',N,mN,hC',P,hna,_⟩:=X.gd.pl _ c hcr;rw[hC]at hC';cases hC';obtain⟨k,hk,hi⟩:=(X.an n0).2 a i hx.at';have ia:i∈X.U.as:=aN hi;obtain⟨Z,z⟩:=y.sat;have z:bD Z s (nA px o dx (X.U.as.map O)::(bA X.L X.ls O::(Sk O 0 Y++(T++X.K)))):=by unfold Cx.W at z;rw[hJ]at z;exact z.perm<|.swap ..
 obtain⟨⟨zx,ho⟩,mA,⟨hns,hw⟩,hm⟩:=z.ok _ aa;have hst:=hx.st;rw[hcr]at hst;obtain⟨nm,q,bs,sn,sub,col,dd,k0,k1,k2,k3,k5,hCo⟩:=(P.cls.keeps z.base).obj;have hxC:px≠C:=λe=>by rw[e,hCo]at ho;exact I.nc _ (congrArg Obj.data<|bO ho).symm
 refine store_attr PySem.F.store_object hCo (P.cls.keeps z.base).ns (P.quiet _<|aC _ (by decide)) (P.quiet a<|aE _ hst) (hna a<|aN hk) hxC ⟨o,ho,hcl,I.nc,.inr ⟨dx,I.dic,I.ne,hns⟩⟩ (λh' tk I' hk' hsame=>h _ ?_) hw Po;obtain⟨o1,g1,e1,e2,e3,e4⟩:=hsame _ ho;have hob:h'.get? px=some o:=by rw[g1];have dic:=I.dic;obtain⟨_,_,_,_⟩:=o;subst e1;subst e2;subst e3;cases((e4 dx dic).trans dic.symm);rfl
 have kp:∀b o,b≠dx->s.heap.get? b=some o->h'.get? b=some o:=λb o' n e=>by
  by_cases q:b=px
  .subst q;rw[ho]at e;rw[<- bO e];exact hob
  .exact hk' b o' q (λRW dx' e0 e' q'=>by rw[ho]at e0;obtain rfl:=bO e0;rw[I.dic]at e';exact n<|bO e'▸q') e
 have ns':h'.Ns1 dx (λz=>if z=a then some v else mA z):=by
  obtain⟨o',ho',_,_,r⟩:=I';rw[hob]at ho';obtain rfl:=bO ho';rcases r with⟨r,_⟩ | ⟨d',hd',_,r⟩
  .rw[I.dic]at r;exact nomatch r
  .rw[I.dic]at hd';exact bO hd'▸r
 have wi:Within (λz=>if z=a then some v else mA z) tb.an:=λz hz=>by
  by_cases q:z=a
  .exact q▸aN hk
  .exact hw z λe=>hz<|(if_neg q).trans e
 refine⟨⟨Z,?_⟩,λx' o' dx' e=>(gP λ(q:X.si=i)=>X.sin n0<|q▸ia).trans<|y.slf x' o' dx' e⟩;unfold Cx.W;rw[hJ,D0 (vs':=upd O i v) (O:=O) λj l hl=>gP λq=>by rw[q,X.asl i ia]at hl;exact bz hl,show Sk (upd O i v) 0 Y=Sk O 0 Y from hZ λj sl e n=>gP λq=>by rw[aX]at q;subst q;exact n<|hn sl e];refine bD.perm (bD.one (q:=nA px o dx<|X.U.as.map<|upd O i v) (tk:=tk) z (λb o e n=>kp b o n e) (λj0_ z=>z) (λj0_ z=>.inl z) ⟨⟨zx,hob⟩,_,⟨ns',wi⟩,λk' a' v' h1 h2=>?_⟩ λb q=>⟨.inl q,z.nz _ aa b q⟩)<|.swap ..;rw[bn]at h2;obtain⟨j,hj,e⟩:=aT.mp h2;by_cases q:j=i
 .subst q;obtain rfl:=vU X.asn hi hj;rw[hk]at h1;obtain rfl:=bO h1;rw[lS]at e;exact(if_pos rfl).trans e
 .have na:a'≠a:=λq'=>by subst q';obtain rfl:=vU Pn hk h1;rw[hi]at hj;exact q (bO hj).symm
  exact(if_neg na).trans<|hm k' a' v' h1 (by rw[bn,hj];exact congrArg some<|(gP q).symm.trans e)
theorem Iz(y:Fr X O Y (tA r v++T) s)(hJ:X.J=some (px,o,dx))(hx:X.U.isA x a i)(he:asgT X.c.pin Y (.one i) r=some aP)(h:∀s',Fr X (upd O i v) aP T s'->Q () s') :wpAny (model prog w) X.A (setAttr (.ref px) a v) Q E s:=
 qG (y.forget i) hJ hx (λj0_=>oQ) λs' z=>h s'<|z.keep lS he
end
structure Fo(X:Cx) :Prop where
 nf:∀x i,X.U.vars.lookup x=some i->X.env.kindOf x≠some .free
 ni:interactive X.env=false
 kd:∀x,X.env.kindOf x=X.U.names.lookup x
 le:X.env.locals=X.L
 lv:∀j z,X.ls j=some (.dict X.L z)->X.U.vars.lookup z≠none\/X.U.ats≠ []
 sl:X.U.ats=[]->X.J=none
 pn:∀i∈X.c.pin,i<X.U.hi
noncomputable def Ag(X:Cx)(vs' O:bV) :Prop:= ∀i∈X.c.pin,vs' i=O i
inductive PS(X:Cx)(O:bV)(T:List At)(out:Se dU×Fm)(f:Flow)(s':Shared) :Prop
 | next (vs':bV) :out.1 = .ok .next->f = .next->Ag X vs' O->Fr X vs' out.2 T s'->PS X O T out f s'
 | ret (vs':bV) (r:Rv) (v:Value) (d:D) :out.1 = .ok (.ret r)->f = .ret v->gU r=some d->Ag X vs' O->Fr X vs' out.2 (tA r v++T) s'->PS X O T out f s'
inductive n6{β:Type}(X:Cx)(O:bV)(T:List At)(out:Se β×Fm)(e:Value)(s':Shared) :Prop
 | mk (vs':bV) :Ag X vs' O->PX X vs' T out e s'->n6 X O T out e s'
noncomputable def SS(X:Cx)(m:Sem Flow)(g:Fm->dc dU) :Prop:= ∀(O:bV)(T:List At)(s:Shared)(Y:Fm)(out:Se dU×Fm),g Y=some out->Fr X O Y T s->wpAny (model prog w) X.A m (PS X O T out) (n6 X O T out) s
section
variable {X:Cx}{O vs' vs'':bV}{Y aP:Fm}{T P:List At}{s s':Shared}{i:Nat}{v:Value}{x a:Str}{pos p p':Pos}{out:Se dU×Fm}{f:Flow}{e:Expr}{z:Ex}{Q:Sr}
theorem Ag.refl:Ag X O O:=λj0_ j1_=>rfl
theorem Ag.trans(h:Ag X vs'' vs')(h':Ag X vs' O) :Ag X vs'' O:=λi hi=>(h i hi).trans<|h' i hi
theorem Ag.upd(h:i∉X.c.pin) :Ag X (Mv.upd O i v) O:=λj hj=>gP λq=>h<|q▸hj
theorem PS.from(h:Ag X vs' O)(p:PS X vs' T out f s) :PS X O T out f s:=by cases p with
 | next vs'' a b g x=>exact .next vs'' a b (g.trans h) x
 | ret vs'' r v d a b e g x=>exact .ret vs'' r v d a b e (g.trans h) x
theorem n6.from{out:Se β×Fm}(h:Ag X vs' O)(p:n6 X vs' T out v s) :n6 X O T out v s:=by obtain⟨vs'',g,x⟩:=p;exact⟨vs'',g.trans h,x⟩
theorem n6.no{β:Type}{b:β}{f:Fm}{c:Prop}(x:n6 X O T ((.ok b:Se β),f) v s') :c:=by obtain⟨_,_,x⟩:=x;exact x.no
theorem n6.to{β γ:Type}{nm:Str}{f:Fm}(x:n6 X O (P++T) ((.error nm:Se β),f) v s') :n6 X O T ((.error nm:Se γ),f) v s':=by obtain⟨vs'',g,x⟩:=x;exact⟨vs'',g,x.to⟩
theorem n6.of{out:Se β×Fm}(x:PX X O T out v s) :n6 X O T out v s:=⟨O,.refl,x⟩
theorem Ez{Q:α->Shared->Prop}{out:Se β×Fm}(h:wpAny (model prog w) X.A m Q (PX X O T out) s) :wpAny (model prog w) X.A m Q (n6 X O T out) s:=aK h (λj0_ j1_ q=>q) λj0_ j1_ x=>.of x
theorem qd{k:Rv->Fm->dc β}{out:Se β×Fm}(hk:bI (g Y) k=some out)(H:SE X m g)(y:Fr X O Y (P++T) s)
  (K:∀r aP v bC,k r aP=some out->Es O r v->Fr X O aP (tA r v++(P++T)) bC->Q v bC) :wpAny (model prog w) X.A m Q (n6 X O T out) s:=Ez<|im hk (λu e=>H O _ s Y u e y) K
theorem AY{k:Rv->Fm->dc β}{out:Se β×Fm}{Q:Bool->Shared->Prop}(hk:bI (g Y) k=some out)(hd:∀r aP,k r aP=some out-> ∃d,gV aP r=some d)(H:ST X m g)(y:Fr X O Y T s)
  (K:∀r d aP bC,k r aP=some out->gV aP r=some d->Fr X O aP T bC->Q (tD d) bC) :wpAny (model prog w) X.A m Q (n6 X O T out) s:=Ez<|AX hk hd (λu e hd=>H O T s Y u e hd y) K
theorem AP(ok:Fo X)(hx:X.U.isV x i)(H:SE X (eval e X.env) (ev X.c z))(G:swapsWith e (some<|.Name x p) pos.line X.env=pure false) :SS X (exec (.Assign [.Name x p] e pos) X.env) (jF X.c<|.asg (.one i) z):=λO T s Y out h y=>
 wpAny_Assign_Name (qd (P:=[]) (pZ h).2 H y λr aP v bC h j0_ cB=>aR (cE h) λi4 z=>oy cB hx.1 (ok.nf x i hx.1) z.1 λs' x'=>bO z.2▸ .next _ rfl rfl (.upd<|kb z.1 i aa) x') G
theorem E9{px dx:Addr}(hJ:X.J=some (px,o,dx))(hx:X.U.isA x a i)(H:SE X (eval e X.env) (ev X.c z))(G:swapsWith e (some<|.Attribute (.Name x p) a p') pos.line X.env=pure false) :SS X (exec (.Assign [.Attribute (.Name x p) a p'] e pos) X.env) (jF X.c<|.asg (.one i) z):=λO T s Y out h y=>
 plainObj_wpAny_Assign_Attribute (qd (P:=[]) (pZ h).2 H y λr aP v bC h j0_ cB=>iW cB hJ hx.sn hx.ne hx.db<|aR (cE h) λi4 z=>Iz cB hJ hx z.1 λs' x'=>bO z.2▸ .next _ rfl rfl (.upd<|kb z.1 i aa) x') G
theorem J0(ok:Fo X)(H:SE X (eval e X.env) (ev X.c z))(G:swapsWith e none pos.line X.env=pure false) :SS X (exec (.Expr e pos) X.env) (jF X.c<|.exp z):=λO T s Y out h y=>
 wpAny_Expr_any (qd (P:=[]) h H y λr aP v bC h j0_ cB=>bO h▸ .next O rfl rfl .refl cB.drop) ok.ni G
end
section
variable {X:Cx}{O vs' vs'':bV}{Y aP:Fm}{T P:List At}{s s':Shared}{i j:Nat}{v:Value}{x a:Str}{pos pos' p p' ap:Pos}{out:Se dU×Fm}{f:Flow}{e e' o:Expr}{z z':Ex}{Q:Sr}{t:ja}
theorem KF{o:Option D}(h:KG o=true) :∃S,o=some (.list S):=by
 rcases o with _ | d
 .exact tf h
 .cases d with
  | list S=>exact⟨S,rfl⟩
  | _=>exact tf h
theorem Mn{o:Option D}{Y:Fm}{p:Pl}{d:D}(h:Mo o Y p d=some out) :∃S,o=some (.list S)/\S.length<Sz/\(.ok .next,lZ Y p<|.list<|S++[d])=out:=by
 rcases o with _ | e
 .exact bz h
 .cases e with
  | list S=>exact⟨S,rfl,gQ h⟩
  | _=>exact bz h
inductive Ed:D->D->D->D->Prop
 | dict (SN:Sj) (x:Str) (d:D) :SN.length<Sz->Ed (.dict SN) (.str x) d (.dict<|f8 SN x d)
 | list (S:Sb) (k:Int) (d:D) :0<=k/\k.toNat<S.length->Ed (.list S) (.int k) d (.list<|S.set k.toNat d)
theorem Kb{o k d o':D}(h:AW o k d=some o') :Ed o k d o':=by cases o with
 | dict SN=>cases k with
  | str x=>obtain⟨a,rfl⟩:=gQ h;exact .dict SN x d a
  | _=>exact bz h
 | list S=>cases k with
  | int x=>obtain⟨a,rfl⟩:=gQ h;exact .list S x d a
  | _=>exact bz h
 | _=>exact bz h
theorem Be(h:Kx r Y=some out) :(∃d,gU r=some d)/\out=(.ok<|.ret r,Y):=by cases r with
 | pl p=>exact bz h
 | fz d=>exact⟨⟨d,rfl⟩,(bO h).symm⟩
 | own d=>exact⟨⟨d,rfl⟩,(bO h).symm⟩
theorem E7{is:Sg}{k:Nat}(tn:IB X es is)(H:SE X (eval e X.env) (ev X.c z))(G:swapsWith e (some<|.Tuple es k p) pos.line X.env=pure false)(hs':swappedStores [.Tuple es k p] e X.env=pure none) :SS X (exec (.Assign [.Tuple es k p] e pos) X.env) (jF X.c<|.asg (.tup is) z):=λO T s Y out h y=>
 Assign_Tuple (qd (P:=[]) (pZ h).2 H y λr aP v bC h' j0_ cB=>aR (cE h') λi4 z=>rM (λj0_=>X.hh<|bK.mpr λq=>(pZ h).1<|ao.mpr ⟨q,rfl⟩) (TN.tup tn) z.1 cB λvs' s' ag x'=>bO z.2▸ .next vs' rfl rfl (λi hi=>ag i λm=>kb z.1 i m hi) x') G hs'
theorem vH(H:SE X (eval e X.env) (ev X.c z))(h:jF X.c (.ret z) Y=some out)(y:Fr X O Y T s) :wpAny (model prog w) X.A (eval e X.env) (λv s'=>PS X O T out (.ret v) s') (n6 X O T out) s:=
 qd (P:=[]) h H y λr aP v bC h j0_ cB=>(Be h).2▸aR (Be h).1 λd hd=>.ret O r v d rfl rfl hd .refl cB
theorem JU(H:SE X (eval e X.env) (ev X.c z)) :SS X (exec (.Return (some e) pos) X.env) (jF X.c<|.ret z):=λj0_ j1_ j2_ j3_ j4_ h y=>rz<|vH H h y
theorem uS{c:gR}(h:exSs c [.ret z] Y=some out) :jF c (.ret z) Y=some out:=by rw[m4]at h;rcases q:jF c (.ret z) Y with _ | ⟨_ | ⟨_ | r⟩,f⟩ <;> rw[q]at h <;> exact h
theorem Cw{ga gb:Fm->dc dU}{Q:Bool->Shared->Prop}(H:ST X m g)(h:bI (g Y) (λx Y=>mo (gV Y x) λd=>if tD d then ga Y else gb Y)=some out)(y:Fr X O Y T s)
  (K:∀b aP bC,(if b=true then ga aP else gb aP)=some out->Fr X O aP T bC->Q b bC) :wpAny (model prog w) X.A m Q (n6 X O T out) s:=
 AY h (λr aP h=>aR (cE h) λd z=>⟨_,z.1⟩) H y λr d aP bC h hd cB=>K _ _ _ (by rw[hd,BM]at h;exact h) cB
theorem E5(Ht:ST X (isTrue ec X.env<|eval ec X.env) (ev X.c xc))(Ha:SE X (eval ea X.env) (ev X.c xa))(Hb:SE X (eval eb X.env) (ev X.c xb)) :SS X (exec (.Return (some<|.IfExp ec ea eb p) pos) X.env) (jF X.c<|.iff xc [.ret xa] [.ret xb]):=λO T s Y out h y=>
 rz (IfExp_ (Cw Ht h y λb aP bC h cB=>by cases b with
  | true=>exact vH Ha (uS h) cB
  | false=>exact vH Hb (uS h) cB))
theorem JY{a b:List Stmt}(Ht:ST X (isTrue e X.env<|eval e X.env) (ev X.c z))(Ha:SS X (execs a X.env) (exSs X.c xa))(Hb:SS X (execs b X.env) (exSs X.c xb)) :SS X (exec (.If e a b pos) X.env) (jF X.c<|.iff z xa xb):=λO T s Y out h y=>
 wpAny_If (Cw Ht h y λb aP bC h cB=>by cases b with
  | true=>exact Ha O T bC aP out h cB
  | false=>exact Hb O T bC aP out h cB)
theorem JV:SS X (execs [] X.env) (exSs X.c []):=λO T s Y out h y=>wpAny_execs_nil<|bO h▸ .next O rfl rfl .refl y
theorem AZ{g k:Fm->dc dU}{Q:Flow->Shared->Prop}(hk:bI (g Y) (Fa k)=some out)(H:SS X m g)(y:Fr X O Y (P++T) s)(kE:∀e s',n6 X O T out e s'->E e s')
  (kN:∀vs' aP bC,k aP=some out->Ag X vs' O->Fr X vs' aP (P++T) bC->Q .next bC) (kR:∀v bC,PS X O T out (.ret v) bC->Q (.ret v) bC) :wpAny (model prog w) X.A m Q E s:=by
 rcases dD hk with⟨e,f,hm,rfl⟩ | ⟨c,f,hm,hk⟩
 .refine aK (H O _ s Y _ hm y) (λv s' p=>?_) λj0_ j1_ x=>kE _ _ x.to;cases p with
  | next _ q=>exact on q
  | ret _ _ _ _ q=>exact on q
 .refine aK (H O _ s Y _ hm y) (λv s' p=>?_) λj0_ j1_ x=>x.no;cases p with
  | next vs' q e ag x=>subst e;obtain rfl:=ky q;exact kN vs' f s' hk ag x
  | ret vs' r v d q e hd ag x=>subst e;obtain rfl:=ky q;exact kR _ _<|bO hk▸ .ret vs' r v d rfl rfl hd ag x.mid
theorem E6{st:Stmt}{z:St}{zs:List St}(H1:SS X (exec st X.env) (jF X.c z))(H2:SS X (execs ss X.env) (exSs X.c zs)) :SS X (execs (st::ss) X.env) (exSs X.c (z::zs)):=λO T s Y out h y=>by rw[m4]at h;exact wpAny_execs_cons<|AZ (P:=[]) h H1 y (λj0_ j1_ p=>p) (λvs' aP bC h ag x=>aK (H2 vs' T bC aP out h x) (λj0_ j1_ p=>p.from ag) λj0_ j1_ p=>p.from ag) λv bC p=>p
end
section
variable {X:Cx}{O vs' vs'':bV}{Y aP:Fm}{T P:List At}{s s':Shared}{i j:Nat}{v:Value}{pos:Pos}{out:Se dU×Fm}{f:Flow}{e g iter:Expr}{z:Ex}{t:ja}{it:kZ}{SJ:Sb}{src:List Ex}{xb:List St}{body:List Stmt}{SO:Sg}
theorem v6{out:Se β×Fm}(k:∀e s',n6 X O T out e s'->E e s')(x:n6 X O T out v s') :notedBy (model prog w) X.A X.env (λe s''=>cameBackBy (model prog w) X.A X.env E e s'') v s':=by obtain⟨vs',ag,x⟩:=x;exact BS (λe s' p=>k e s' ⟨vs',ag,p⟩) x
inductive PA(X:Cx)(O:bV)(T:List At)(W:Wk X.A it SJ)(ow:List Addr)(t:ja)(xb:List St)(SO:Sg)(out:Se dU×Fm)(m:Nat)(s':Shared) :Prop
 | mk (k:Nat) (vs':bV) (Y:Fm) :m=SJ.length+1 - k->k<=SJ.length->Ag X vs' O->Fr X vs' Y (wA W ow k::T) s'->dJ X.c Y t xb SO (SJ.drop k)=some out->PA X O T W ow t xb SO out m s'
theorem JZ(tn:TN X g t)(gk:MV it g)(hI:SI X (eval iter X.env) it (evs X.c src))(hfold:∀v,foldedSetIterable iter X.env v=pure v)(Hb:SS X (execs body X.env) (exSs X.c xb)) :SS X (exec (.For g iter body [] pos) X.env) (jF X.c<|.for_ t it src xb SO):=by
 suffices H:∀(O:bV)(T:List At)(s:Shared)(Y:Fm)(out:Se dU×Fm)(Q:Flow->Shared->Prop)(E:Sr),(∀f s',PS X O T out f s'->Q f s')->(∀e s',n6 X O T out e s'->E e s')->jF X.c (.for_ t it src xb SO) Y=some out->Fr X O Y T s->wpAny (model prog w) X.A (exec (.For g iter body [] pos) X.env) Q E s from
  λO T s Y out h y=>H O T s Y out _ _ (λj0_ j1_ p=>p) (λj0_ j1_ p=>p) h y
 intro O T s Y out Q E kQ kE h y;rw[Hw]at h;have hg:=pZ h;have hh:=X.hh<|bK.mpr hg.1;have h:=hg.2;refine wpAny_For ?_ hfold;rcases dD h with⟨e,f,hm,rfl⟩ | ⟨rs,bQ,hm,h⟩
 .refine aK (hI hh O T s Y _ hm (λrs q=>on q) y) (λx aM p=>aK p (λitv bC p=>?_) λj0_ j1_ x=>kE _ _<|.of<|PX.to (P:=[]) x) λj0_ j1_ x=>kE _ _<|.of<|PX.to (P:=[]) x;obtain⟨_,_,_,_,_,q,_⟩:=p;exact on q
 refine aR (cE h) λV z1=>aR (cE z1.2) λSJ z2=>?_;refine aK (hI hh O T s Y _ hm (λrs q=>ky q▸⟨V,SJ,z1.1,z2.1⟩) y) (λxv aM p=>aK p (λitv bC p=>?_) λj0_ j1_ x=>x.no) λj0_ j1_ x=>x.no;obtain⟨rs',ds',items',W,ow,q,hds,hit,hlen,rfl,y⟩:=p;obtain rfl:=ky q;rw[z1.1]at hds;obtain rfl:=bO hds;rw[z2.1]at hit;obtain rfl:=bO hit;refine codeAny_forLoop_any (PA X O T W ow t xb SO out) ?_ (SJ.length+1) ⟨0,O,bQ,rfl,ba _,.refl,y,by rw[km];exact z2.2⟩;rintro m s' ⟨k,Ax,Y,rfl,hk,ag,y,h⟩;by_cases hkl:k<SJ.length
 .have hd:=aw hkl;rw[List.drop_eq_getElem_cons hkl,zq]at h;generalize SJ[k]=d at hd h;refine y.next gk hd (λj0_ j1_ p=>p) λv aM eK=>?_;refine aR (cE h) λaP h=>?_;refine rM (r:=.fz d) (λj0_=>hh) tn h.1 (eK.clr SO) λjI bC ll jC=>?_;have ll:Ag X jI O:=Ag.trans (λi hi=>ll i λm=>kb h.1 i m hi) ag;exact AZ (P:=[wA W ow<|k+1]) (k:=λY=>dJ X.c Y t xb SO<|SJ.drop<|k+1) h.2 Hb jC (λe s' p=>v6 kE<|p.from ll) (λvs' i4 gJ h Eb oJ=>⟨_,tM hk,k+1,vs',i4,rfl,hkl,Eb.trans ll,oJ,h⟩) λv gJ p=>kQ _ _<|p.from ll
 .obtain rfl:k=SJ.length:=dM hk<|bM.mp hkl;rw[List.drop_length,b4]at h;exact y.done λs' y=>wpAny_execs_nil<|kQ _ _<|bO h▸ .next Ax rfl rfl ag (y.clr SO)
inductive Pq(X:Cx)(O:bV)(T:List At)(z:Ex)(xb:List St)(SO:Sg)(out:Se dU×Fm)(m:Nat)(s':Shared) :Prop
 | mk (vs':bV) (Y:Fm) :Ag X vs' O->Fr X vs' Y T s'->pY X.c Y z xb SO m=some out->Pq X O T z xb SO out m s'
theorem JS(Ht:ST X (isTrue e X.env<|eval e X.env) (ev X.c z))(Hb:SS X (execs body X.env) (exSs X.c xb)) :SS X (exec (.While e body [] pos) X.env) (jF X.c<|.whl z xb SO):=by
 suffices H:∀(O:bV)(T:List At)(s:Shared)(Y:Fm)(out:Se dU×Fm)(Q:Flow->Shared->Prop)(E:Sr),(∀f s',PS X O T out f s'->Q f s')->(∀e s',n6 X O T out e s'->E e s')->jF X.c (.whl z xb SO) Y=some out->Fr X O Y T s->wpAny (model prog w) X.A (exec (.While e body [] pos) X.env) Q E s from
  λO T s Y out h y=>H O T s Y out _ _ (λj0_ j1_ p=>p) (λj0_ j1_ p=>p) h y
 intro O T s Y out Q E kQ kE h y;rw[Hv]at h;obtain⟨n,h⟩:=Nd h;refine wpAny_While<|codeAny_whileLoop (Pq X O T z xb SO out) ?_ n ⟨O,Y,.refl,y,h⟩;rintro m s' ⟨Ax,Y,ag,y,h⟩;cases m with
 | zero=>exact bz h
 | succ m=>
  rw[Av]at h;have hd:∀{b:Se Bool×Fm} r aP,(mo (gV aP r) λd=>some (.ok<|tD d,aP))=some b-> ∃d,gV aP r=some d:=λr aP h=>aR (cE h) λd z=>⟨d,z.1⟩
  rcases dD h with⟨e,f,hm,rfl⟩ | ⟨b,f,hm,h⟩
  .exact aK (AY (Q:=λj0_ j1_=>False) hm hd Ht (y.clr SO) λr d aP bC h hd cB=>by rw[hd]at h;exact nomatch h) (λj0_ j1_ q=>q.elim) λj0_ j1_ x=>v6 kE<|n6.to (P:=[])<|x.from ag
  refine aK (AY hm hd Ht (y.clr SO) λr d aP bC h' hd cB=>?_) (λj0_ j1_ q=>q) λj0_ j1_ x=>x.no;rw[hd]at h';have u:=Qn h';obtain rfl:=u.1;obtain rfl:=u.2;cases hb:tD d with
  | false=>rw[hb]at h;exact wpAny_execs_nil<|kQ _ _<|bO h▸ .next Ax rfl rfl ag cB
  | true=>rw[hb]at h;exact AZ (P:=[]) (k:=λY=>pY X.c Y z xb SO m) h Hb cB (λe s' p=>v6 kE<|p.from ag) (λvs' i4 gJ h Eb oJ=>⟨m,dZ m,vs',i4,Eb.trans ag,oJ,h⟩) λv gJ p=>kQ _ _<|p.from ag
end
section
variable {X:Cx}{O:bV}{Y aP:Fm}{T P:List At}{s s':Shared}{i j:Nat}{v:Value}{x z a:Str}{pos pos' p p' ap dp pz:Pos}{out:Se dU×Fm}{e e' o:Expr}{x1 x2:Ex}{d:D}{u:Addr}{Z:Ss}
theorem J1(ok:Fo X)(hx:PE X.U o i)(ce:CE X.U e x1)(H:SE X (eval e X.env) (ev X.c x1))(hp:(ap.endLine == pos.line) = true) :SS X (exec (.Expr (.Call (.Attribute o "append" ap) [e] [] pos) pos') X.env) (jF X.c (.app (.var i) x1)):=λO T s Y out h y=>by
 have G:=Cv h;obtain⟨QN,CF⟩:=KF G.1;obtain⟨a,Z,ei,W,_,_⟩:=y.ownIn<|gY CF;refine wpAny_Expr_any (wpAny_Call_append (oX hx) (by rw[ce.star X.env []];rfl) hp (by rw[ce.star X.env []];rfl)<|jj y hx ei rfl λtk=>?_) ok.ni rfl;cases W with
 | @list ws m V hil hz RA=>
 refine⟨a,_,rfl,⟨_,_,hil,rfl,rfl,rfl⟩,qd (P:=[]) G.2 H y.toks λr aP v bC h j0_ cB=>?_⟩;refine aR (cE h) λd hd=>aR (Mn hd.2) λS hxs=>hxs.2.2▸?_;have cB:=cB.frzT;rw[jn hd.1]at cB;have cB:=cB.take<|gY hxs.1;rw[ei]at cB;exact Fr.app cB hxs.2.1 λj0_ s' x'=>.next O rfl rfl .refl<|Fr.set (by rw[ei];exact x')
theorem yJ{l:Addr}{k:Int}{t:Tok}{v:Value}{Q:Unit->Shared->Prop}(hl:IsL s.heap l SJ m)(h0:0<=k)(hfit:k<2 ^ 63)(hj:k.toNat<SJ.size)
  (hQ:∀h' m',IsL h' l (SJ.setIfInBounds k.toNat v) m'->Heap.SameBut l s.heap h'->Q () {s with heap:=h'}) :wpAny (model prog w) A (setItem (.ref l) (.int k t) v) Q E s:=by
 unfold setItem
 try with_reducible refine d6 ?_
 first | refine ae (au ?_) | skip
 refine ae (wpAny_sequenceKey hl.isList.typeIs (by decide) ?_);refine ae (dg (name:=Str.ofString "__setitem__") hl.isList.typeIs slot_list_setitem
  (dY slot_list_setitem hl.isList.typeIs entry_list_setitem ?_<|args_list_setitem _ _ _))
 show wpAny _ _ (Builtin.List.listSubscript? (.int k t) >>= _) _ _ s
 refine ae<|wpAny_listSubscript_int (fitsIndex_of h0 hfit) ?_;clear hfit;obtain⟨j,rfl⟩:=Int.eq_ofNat_of_zero_le h0;rw[cj]at hj hQ;have hx':SJ[j]? = some SJ[j]:=qB hj;show wpAny _ _ ((seqItemAt l j >>= λr=>pure<|r.map (j, ·)) >>= _) _ _ s
 refine ae<|ae<|wpAny_seqItemAt hl rfl<|au ?_;rw[hx'];show wpAny _ _ (setSeqItemAt l j v >>= _) _ _ s
 refine ae<|wpAny_setSeqItemAt hl rfl ?_
 first
  | exact ae<|au<|au ⟨.none,rfl,au<|hQ _ _ (IsL.update hl (·.setIfInBounds j v))<|fW ..⟩
  | exact au ⟨.none,rfl,au<|hQ _ _ (IsL.update hl (·.setIfInBounds j v))<|fW ..⟩
theorem E4(hx:PE X.U o i)(H:SE X (eval e X.env) (ev X.c x1))(H':SE X (eval e' X.env) (ev X.c x2))(G:swapsWith e (some<|.Subscript o e' p') pos.line X.env=pure false) :SS X (exec (.Assign [.Subscript o e' p'] e pos) X.env) (jF X.c<|.setI (.var i) x2 x1):=λO T s Y out h y=>by
 refine wpAny_Assign_Subscript (qd (P:=[]) h H y λr bQ v aM h j0_ bE=>?_) G;have G:=Cv h;refine aR (i9.mp G.1) λQN CF=>?_;obtain⟨a,Z,ei,W,_,_⟩:=bE.ownIn<|gY CF;refine jj bE hx ei rfl λtk=>qd (P:=tA r v) G.2 H' bE.toks λrk aP vk bC h lY cB=>?_;refine aR (cE h) λd hd=>aR (cE hd.2) λkd hkd=>aR (cE hkd.2) λo ho=>aR (cE ho.2) λo' hset=>?_;refine bO hset.2▸?_;obtain⟨Zk,rk'⟩ :∃Z,eX bC.heap Z vk kd:=aR cB.sat λZ y=>⟨Z,(In.hd lY).dat y<|iT hkd.1⟩
 have cB:=(Fr.drop cB:Fr X O aP (tA r v++T) bC).frzT;rw[jn hd.1]at cB;obtain⟨a',Z,ei',W,y,il⟩:=cB.ownIn<|gY ho.1;obtain rfl:=iS<|ei.symm.trans ei';have rv:=dW.dz y<|em<|ac _ aa;cases Kb hset.1 with
 | dict V k _ hj=>obtain⟨t,rfl,ok1,ok2⟩:=rk'.str;cases W with
  | @dict SN V hds hz RK=>refine wpAny_setItem_pairs (knd:=strKind prog w) (strKind_is _ _ k t) hds.2 (λh' hd' hsb=>?_) (by rw[<- dR];exact hz);have kp:∀b o,b≠a->bC.heap.get? b=some o->h'.get? b=some o:=λb o q e=>hsb.extBut b o q e;have kz:=pN.kz y kp;have RK':=(RK.mono kz λj0_ z=>z).set ok1 ok2<|rv.mono kz λj0_ z=>z;exact .next O rfl rfl .refl<|Fr.drop (P:=[_])<|il.ownSet (tk:=_) ei y kp<|.dict ⟨hds.1,hd'⟩ (by rw[RK'.length];exact af (zK k d V) hj) RK'
 | list S k _ hj=>obtain⟨t,rfl⟩:=rk'.int;have h0:=hj.1;have hj:=hj.2;cases W with
  | @list ws m V hil hz RA=>rw[<- RA.length]at hj;refine yJ hil h0 ((Int.toNat_lt h0).mp<|aV hj<|af hz (show Sz<=9223372036854775808 by decide)) (by rw[ax];exact hj) λh' m' hil' hsb=>?_;have kp:∀b o,b≠a->bC.heap.get? b=some o->h'.get? b=some o:=λb o q e=>hsb.extBut b o q e;have kz:=pN.kz y kp;rw[show ws.toArray.setIfInBounds k.toNat v=(ws.set k.toNat v).toArray from by simp]at hil';exact .next O rfl rfl .refl<|Fr.drop (P:=[_])<|il.ownSet (tk:=_) ei y kp<|.list hil' (by rw[List.length_set];exact hz)<|(RA.mono kz λj0_ z=>z).set k.toNat<|rv.mono kz λj0_ z=>z
theorem JT(ok:Fo X)(hx:PE X.U o i)(hp:(ap.endLine == pos.line) = true) :SS X (exec (.Expr (.Call (.Attribute o "reverse" ap) [] [] pos) pos') X.env) (jF X.c (.rev (.var i))):=λO T s Y out h y=>by
 refine aR (cE h) λd z=>aR (cE z.2) λo' z1=>bO z1.2▸?_;cases d <;> first | exact bz z1.1 | skip
 obtain rfl:=bO z1.1;obtain⟨a,Z,ei,W,y',x'⟩:=y.ownIn<|gY z.1;refine wpAny_Expr_any (wpAny_Call_method0_late (oX hx) hp<|jj y hx ei rfl λtk=>?_) ok.ni rfl;cases W with
 | @list ws m V hil hz RA=>refine ⟨"list","list.reverse",PySem.F.plainAttrs_list,PySem.F.slot_list_reverse,PySem.F.type_list_reverse,⟨_,hil,rfl⟩,(λb e=>by cases e; exact ⟨_,hil,rfl⟩),?_⟩;refine PySem.P.reverse_list (s:= {s with toks:=tk}) hil ?_ (by rw [ax,<- dR]; exact hz);have up:=IsL.update hil λx=>x.reverse;generalize hH:s.heap.update a (Obj.mapSeq λx=>x.reverse)=H at up;have kp:∀b o,b≠a->s.heap.get? b=some o->H.get? b=some o:=λb o q e=>(hH▸fW ..:Heap.SameBut a s.heap H).extBut b o q e;rw[show ws.toArray.reverse=ws.reverse.toArray from List.reverse_toArray]at up;exact .next O rfl rfl .refl (Fr.ownSet (s:=s) (tk:=tk) ei x' y' kp (.list up (by rw[eN];exact hz) (RA.mono (pN.kz y' kp) λj0_ z=>z).reverse))
open Classical in
theorem E0(ha:X.U.isA x a i)(hz:X.U.isV z j)(H:SE X (eval e X.env) (ev X.c x1))(G:swapsWith e (some<|.Subscript (.Attribute (.Name x p) a ap) (.Name z pz) p') pos.line X.env=pure false) :SS X (exec (.Assign [.Subscript (.Attribute (.Name x p) a ap) (.Name z pz) p'] e pos) X.env) (jF X.c<|.tset i (.var j) x1):=λO T s Y out h y=>by
 refine wpAny_Assign_Subscript (qd (P:=[]) h H y λr bQ v aM h j0_ bE=>?_) G;have h0:∃V,bQ[i]? = some (.tab V):=by
  rcases dD h with⟨e,f,hm,_⟩ | ⟨r,f,hm,h'⟩
  .rcases xm hm with⟨_,_,q⟩ | ⟨_,_,q⟩ <;> exact on (ie q).1
  exact aR (cE h') λd z1=>aR (cE z1.2) λk z2=>aR (cE z2.2) λV z3=>⟨V,xl hm<|jL z3.1⟩
 obtain⟨RB,h0⟩:=h0;obtain⟨Z,eK⟩:=bE.sat;obtain⟨t,ei,_⟩:=eK.tab h0;refine md bE ha ei rfl λtk=>qd (P:=tA r v) h (t9<|.nm hz) bE.toks λrk aP vk bC h lY cB=>?_;refine aR (cE h) λd hd=>aR (cE hd.2) λk hk=>aR (cE hk.2) λV ht=>?_;obtain⟨⟨ko,kn,ln⟩,rfl⟩:=gQ ht.2;have cB:=cB.frzT;rw[jn hk.1]at cB;have cB:=(cB.perm<|bp 3 [1,0,2] (by decide) [[zA (some vk) k],tA r v,T] rfl).frzT;rw[jn hd.1]at cB;have cB:=cB.take<|jL ht.1;rw[ei]at cB;obtain⟨Z,jC⟩:=cB.sat;have jC:bD Z bC (kA (some<|.ref t) V::X.W O (aP.set i .no) (zA (some v) d::(zA (some vk) k::T))):=jC.perm<|g8 (P:=[_]) ..;have rd:=dW.dz jC<|ac _<|em (X:=X) aa;have rk:=dW.dz jC<|ac _<|em (X:=X)<|ac _ aa;obtain⟨b,rfl⟩:=rk.keyRef ko;obtain⟨_,et,S,sy,dm,lx,kt⟩:=jC.ok _ aa;obtain rfl:=iS et;have an:atKey S k=none:=by cases kt.get ko with
  | no _ b=>exact b
  | yes _ _ a _ _=>rw[kn]at a;exact bz a
 refine wpAny_setItem_heap (knd:=i6 prog w) X.room (dW.isKey ko rk) dm (λh' hd' hsb=>?_) (by rw[<- dR];exact lx);rw[storedH_new an]at hd';have kp:∀b o,b≠t->bC.heap.get? b=some o->h'.get? b=some o:=λb o q e=>hsb.extBut b o q e;have kz:∀b o,Z b->bC.heap.get? b=some o->h'.get? b=some o:=λb o z e=>kp b o (λq=>jC.nz _ aa b (by rw[q];rfl) z) e;have Tt:TabAt h' Z t (V++[(k,d)]):=⟨_,sy,hd',by rw[aj,kt.len];exact ln,(kt.app ko rk rd).mono kz λj0_ z=>z⟩
 have il:Fr X O (aP.set i .no) ([vA (O i)<|.tab<|V++[(k,d)]]++([zA (some v) d,zA (some<|.ref b) k]++T)) {bC with heap:=h',toks:=bC.toks+(i6 prog w).draws k}:=⟨n5 (P:=[_]) (by rw[ei];exact⟨Z,jC.one (q:=kA (some<|.ref t) _) (λb o e n=>kp b o (λq=>n (by rw[q];rfl)) e) (λj0_ z=>z) (λj0_ z=>.inl z) ⟨t,rfl,Tt⟩ λb q=>⟨.inl q,jC.nz _ aa b q⟩⟩),cB.slf⟩
 exact .next O rfl rfl .refl<|Fr.set<|Fr.mid il
open Classical in
theorem E3{px dx:Addr}{o:Obj}(hJ:X.J=some (px,o,dx))(hx:X.U.isA x a i) :SS X (exec (.Assign [.Attribute (.Name x p) a p'] (.Dict [] [] dp) pos) X.env) (jF X.c<|.tab0 i):=λO T s Y out h y=>by
 obtain ⟨hn,rfl⟩:=PM h;have nD:=ya s.heap;have eK:Fr X O Y (kA (some (.ref s.heap.objs.size)) [] :: T) {s with heap:=s.heap.push {cls:=.type "dict",data:=.dict #[]}}:=⟨n5 (P:=[_]) (aR y.sat λZ z=>⟨Z,bD.nw (tk:=s.toks) z (λb o e=>pK _ b o e) (λj0_ z=>z) (λj0_ z=>.inl z) ⟨_,rfl,[],xt (X.big z),Heap.DictOfH.new _,ba _,trivial⟩ λb q=>by obtain rfl:=iS q;exact⟨nD,λw=>aR (z.zl _ w) λo e=>by rw[nD]at e;exact bz e⟩⟩),y.slf⟩
 refine plainObj_wpAny_Assign_Attribute (wpAny_Dict_empty<|iW eK hJ hx.sn hx.ne hx.db<|qG (eK.forget i) hJ hx (λj0_=>oQ) λs' x'=>?_) rfl;exact .next _ rfl rfl (.upd λq=>hn<|bJ.mpr q)<|Fr.set (sl:=.tab []) (by rw[lS];exact x')
theorem JX{d:DefRec}(ok:Fo X)(hf:tb.fn[f]? = some d/\tb.m0<=f/\kf f = X.U.k)(hx:x = X.U.sn/\(x == ("__debug__" :Str)) = false/\X.U.ats≠ [])(hl:(ap.endLine == pos.line) = true)
  (F:F2 (λe x=>CE X.U e x/\SE X (eval e X.env) (ev X.c x)) es S) (hn:es.length<=28) :SS X (exec (.Expr (.Call (.Attribute (.Name x p) d.name ap) es [] pos) pos') X.env) (jF X.c<|.mst f X.U.as (vI (tG f) X.U.as) S):=λO T s Y out h y=>by
 have hn':=(X.ins hx.2.2).1;rcases hJ:X.J with _ | ⟨px,ob,dx⟩
 .exact absurd hJ hn'
 refine wpAny_Expr_any (rq rfl F hn hl<|iW y hJ hx.1 hx.2.2 hx.2.1 λpl=>xV hJ hf F y ?_) ok.ni rfl;refine Ez<|nF (P:=[]) h (λu e=>vG F O T s Y u e y) λrs bQ ws aM kX h p bE=>⟨bE.base,λfa fa'=>?_⟩;have hp:=pZ h;have ag:∀{vs':bV},(∀i,i∉vI (tG f) X.U.as->vs' i=O i)->Ag X vs' O:=λe i hi=>e i λm=>hp.1<|ix.mpr ⟨i,m,bJ.mpr hi⟩;rcases dD hp.2 with⟨e,f',hm,rfl⟩ | ⟨r,f',hm,h⟩
 .have q:=mB hf.1 fa' (.slf rfl rfl hn') (by rw[hJ];exact(X.an hn').1) hm p bE;rw[hJ]at q;exact iF.wp q (λvs' v s' e q=>by obtain⟨_,q,_⟩:=q;exact on q) λvs' v s' e q=>⟨vs',ag e,PX.to (P:=[]) q⟩
 .have q:=mB hf.1 fa' (.slf rfl rfl hn') (by rw[hJ];exact(X.an hn').1) hm p bE;rw[hJ]at q;refine iF.wp q (λvs' v s' e q=>?_) λvs' v s' e q=>q.no;obtain⟨r',_,_,x'⟩:=q;exact bO h▸ .next vs' rfl rfl (ag e) x'.drop
end
end Mv
end
section
namespace Mv
open PySem PyProof.Rows
inductive HV:Expr->D->Prop
 | one {k:Const} {kk:Nat} {pos:Pos} {d:D} :gf k d->HV (.Constant k kk pos) d
 | two {k k':Const} {kk kk' kt:Nat} {p p' pos:Pos} {d d':D} :gf k d->gf k' d'->HV (.Tuple [.Constant k kk p,.Constant k' kk' p'] kt pos) (.tuple [d,d'])
inductive HS(U:Sc) :List ExceptHandler->List (Str×Sd×D)->Prop
 | nil:HS U [] []
 | cons {cn:Str} {p rp hp:Pos} {e:Expr} {d:D} {G:List ExceptHandler} {S:List (Str×Sd×D)} :U.isG cn->cn∈tb.hc/\(tb.hb cn).all tb.cl.contains=true->HV e d->HS U G S->HS U (.ExceptHandler (some<|.Name cn p) none [.Return (some e) rp] hp::G) ((cn,tb.hb cn,d)::S)
variable [Hp]
section
variable {X:Cx}{O:bV}{Y:Fm}{T:List At}{s s':Shared}{a:Addr}{nm:Str}{out:Se dU×Fm}{G:List ExceptHandler}{S:List (Str×Sd×D)}
theorem AO{k msg:Str}(hg:X.U.isG k)(hk:k∈tb.cl) :SS X (exec (.Raise (some<|.Call (.Name k np) [.Constant (.str msg) kk ap] [] cpos) none pos) X.env) (jF X.c<|.raise k):=λO T s Y out h y=>by
 rw[zF]at h;have hh:=X.hh<|bK.mpr (PM h).1;obtain⟨C,Bb,newId,initId,bm,Su,FB⟩:=X.gd.cl k hk;obtain⟨tl,N,nm,q,bs,hdct,sn,sub,ab,col,dd,k0,k1,k2,k3,k5,mN,hC,hN,hq,T'⟩:=Su.obj;refine wpAny_Raise_call_subT (C:=C) (nm:=nm) (q:=q) (N:=N) (bs:=bs) (bm:=tl) (hdct:=hdct) (sn:=sn) (sub:=sub) (ab:=ab) (col:=col) (dd:=dd) (k0:=k0) (k1:=k1) (k2:=k2) (k3:=k3) (k5:=k5)
  FB (mN:=mN) (T'.tail.hasType FB.hasBase) hh rfl (hq _<|.head _) (fq y.base hg Su.bound ⟨rfl,?_⟩)
 refine bS<|bG<|wpAny_Constant_str (k:=kk) (pos:=ap)<|cD ?_;refine⟨rfl,(by show 1<=sizeLine;decide),y.base _ _ hC,hN.keeps y.base,T'.tail.keeps y.base,λh' e hm=>.of ?_⟩;refine aR hm.there λt Q=>(PM h).2▸⟨k,e,λb=>b=e,rfl,rfl,n5 (P:=[_])<|aR y.sat λZ z=>⟨Z,z.nw (tk:=_) hm.keeps (λj0_ z=>z) (λj0_ z=>.inl z) ⟨⟨rfl,_,_,C,mg,Q.1,⟨rfl,rfl⟩,rfl,X.gd.g,Su.bound,.inl rfl⟩,λb q=>⟨_,q▸Q.1⟩⟩ λb q=>?_⟩,y.slf⟩;obtain rfl:b=e:=q;exact⟨hm.new,λw=>aR (z.zl _ w) λo e=>by rw[hm.new]at e;exact bz e⟩
def tH(X:Cx)(a:Addr) :Cx:= {X with A:=X.A.mark<|some<|.ref a,c:= {X.c with hd:=true},hh:=(λq=>nomatch q),dep:=(λq=>nomatch q),un:=(λq=>nomatch q),stk:=X.stk,top:=X.top,gd:=X.gd,cs:=X.cs,wd:=X.wd}
theorem Fr.mark(x:Fr X O Y T s) :Fr (tH X a) O Y T s:=⟨x.sat,x.slf⟩
theorem Fr.unmark(x:Fr (tH X a) O Y T s) :Fr X O Y T s:=⟨x.sat,x.slf⟩
theorem PY.mark{e:Value}(x:PY X O T o e s) :PY (tH X a) O T o e s:=by obtain⟨nm,a,P,h1,h2,h3,x⟩:=x;exact⟨nm,a,P,h1,h2,h3,x.mark⟩
theorem HS.mem(H:HS X.U G S)(h:Hx nm S Y=some out) :nm∈tb.cl:=by induction H with
 | nil=>exact bz h
 | @cons cn _ _ _ _ _ _ _ _ hm _ _ ih=>
  rw[Jg]at h;by_cases q:(tb.hb cn).contains nm=true
  .exact bJ.mp (aB.mp hm.2 nm<|bJ.mp q)
  .rw[if_neg q]at h;exact ih h
theorem HV.se{e:Expr}{d:D}(h:HV e d) :∃x,SE X (eval e X.env) (ev X.c x)/\ ∀Y,ev X.c x Y=some (.ok<|.fz d,Y):=by cases h with
 | one k=>exact⟨_,oS k,λj0_=>rfl⟩
 | @two k1 k2 kk kk' kt p p' pos d1 d2 h1 h2=>exact⟨.tup [.lit d1,.lit d2],A0 (S:=[.lit d1,.lit d2]) ⟨⟨.lit h1,oS h1⟩,⟨.lit h2,oS h2⟩,trivial⟩ (by show 2<=1000;decide),λj0_=>rfl⟩
theorem fT.ask{P:Ss}(x:fT h P a nm) :∃oe C,h.get? a=some oe/\mg nm=some (.ref C)/\(oe.cls = .ref C/\oe.dict=none/\ ∃O,oe.data = .fields O)\/ ¬B.Ns mainGlobals mg:=by
 obtain⟨_,oe,O,C,m,he,hc,hd,hn,hm,_⟩:=x;by_cases q:B.Ns mainGlobals mg
 .exact⟨oe,C,.inl ⟨he,by rw[xO q hn];exact hm,hc.1,hc.2,O,hd⟩⟩
 .exact⟨oe,C,.inr q⟩
theorem zm{Q:Flow->Shared->Prop}(H:HS X.U G S)(hn:nm∈tb.cl)(p:PY X O T ((.error nm:Se dU),Y) (.ref a) s)(kQ:∀f s',PS X O T out f s'->Q f s')(h:Hx nm S Y=some out) :wpAny (model prog w) X.A (handleBy (.ref a) X.env G) Q E s:=by induction H with
 | nil=>exact bz h
 | @cons cn np rp hp e d G S hg hm hv _ ih=>
  rw[Jg]at h;have p':=p;obtain⟨nm',a',P,e1,e2,tr,y⟩:=p';cases e1;cases e2;refine aR (X.gd.ask cn hm.1) λSA J=>?_;refine wpAny_handleBy_cons (codeAny_handlers_test<|fq (X:=tH X a) y.base hg J.1 ?_) (by intro q;cases q);obtain⟨oe,C,q⟩:=tr.ask;rcases q with⟨he,hC,hc⟩ | q;rotate_left
  .exact absurd X.gd.g q
  refine J.2 nm hn C hC prog w _ _ s a oe y.base he hc _ ?_;by_cases q:(tb.hb cn).contains nm=true
  .rw[if_pos q]at h;rw[q];refine codeAny_handlers_suite<|PY.fly (X:=tH X a) p.mark λgJ il=>?_;obtain⟨nm',a',P',e1,e2,_,oJ⟩:=il;refine aR (HV.se (X:=tH X a) hv) λx z=>?_;refine wpAny_execs_cons<|rz<|aK (z.1 O T gJ Y _ (z.2 Y)<|Fr.drop (P:=[_]) oJ) (λv s' p=>?_) λj0_ j1_ x=>x.no;obtain⟨r,q,_,x'⟩:=p;obtain rfl:=ky q;exact kQ _ _<|bO h▸ .ret O (.fz d) v d rfl rfl rfl .refl x'.unmark
  .rw[if_neg q]at h;rw[bK.mpr q];exact ih h
theorem xo(g:Str->Fm->dc dU)(hne:G≠ [])(Hb:SS X (execs body X.env) (exSs X.c xb))
  (HH:∀{O Y nm a s},PY X O T ((.error nm:Se dU),Y) (.ref a) s->g nm Y=some out->wpAny (model prog w) X.A (handleBy (.ref a) X.env G) (PS X O T out) (n6 X O T out) s)
  (h:AF g (exSs X.c xb Y)=some out) (y:Fr X O Y T s) :wpAny (model prog w) X.A (exec (.Try body G [] [] pos) X.env) (PS X O T out) (n6 X O T out) s:=by
 refine kL (List.exists_cons_of_ne_nil hne) λh0 G z=>?_;subst z;refine wpAny_Try_except ?_;rcases hb:exSs X.c xb Y with _ | ⟨nm | k,bQ⟩
 .rw[hb]at h;exact bz h
 .rw[hb,AE]at h;refine aK (Hb O T s Y _ hb y) (λfl s' p=>?_) λev aM p=>?_
  .cases p with
   | next _ q=>exact on q
   | ret _ _ _ _ q=>exact on q
  obtain⟨vs',ag,p⟩:=p;have p':=p;obtain⟨nm',a,P,e1,rfl,_⟩:=p';cases e1;exact p.noteW λbC lY=>lY.fly λgJ rW=>aK (HH rW h) (λf s' p=>p.from ag) λe s' p=>p.from ag
 .rw[hb,EO]at h;refine aK (Hb O T s Y _ hb y) (λfl s' p=>?_) λj0_ j1_ x=>x.no;cases p with
  | next vs' q e ag x=>subst e;exact wpAny_execs_nil<|.next vs' (by rw[<- bO h];exact q) rfl ag (by rw[<- bO h];exact x)
  | ret vs' r v d q e hd ag x=>subst e;exact .ret vs' r v d (by rw[<- bO h];exact q) rfl hd ag (by rw[<- bO h];exact x)
theorem E1(H:HS X.U G S)(hne:G≠ [])(Hb:SS X (execs body X.env) (exSs X.c xb)) :SS X (exec (.Try body G [] [] pos) X.env) (jF X.c<|.tryx xb S):=λO T s Y out h y=>by rw[uT]at h;exact xo (λe=>Hx e S) hne Hb (λp h=>zm H (H.mem h) p (λj0_ j1_ p=>p) h) h y
theorem gh.exc{W:List At}{P:Ss}(tr:fT s.heap P a nm)(y:gh s (xA P a nm::W)) :gh s (cA (some<|.ref a) nm::W):=aR y λZ y=>by obtain⟨pa,oe,O,C,m,he,hc,hd,hn,hm,_⟩:=tr;refine⟨λb=>Z b\/b=a,bD.one (tk:=s.toks) y (λj0_ j1_ e j2_=>e) (λj0_ z=>.inl z) (λb z=>z.imp id λq=>by subst q;exact⟨.inl pa,_,he⟩) ⟨a,oe,C,rfl,⟨.inr rfl,he⟩,⟨hc.1,hc.2,O,hd⟩,m,hn,hm⟩ λj0_ h=>h.elim⟩
theorem Pf{x:Str}{u:So}(y:(bA L ls O).ok Z h)(hl:ls i=some (.dict L x))(ap:∀j k,ls j=some k->j≠i->k.addr=L-> ∃a x' z,k = .dict a x'/\Loc.dict L x = .dict a z/\x'≠z)(kp:∀a o,a≠L->h.get? a=some o->h'.get? a=some o)(hm:h.Ns L m)(hm':h'.Ns L λz=>if z=x then u else m z) :(bA L ls (λj=>if j=i then none else O j)).ok Z h':=by
 have nsk:∀{a m},a≠L->h.Ns a m->h'.Ns a m:=λn q=>m5 q λo es ep q=>⟨o,es,ep,kp _ o n q.1,q.2⟩
 have clk:∀{a u},a≠L->h.IsCell a u->h'.IsCell a u:=λn q=>aR q λo q=>⟨o,kp _ o n q.1,q.2⟩
 refine⟨⟨_,hm'⟩,λj k hk=>⟨(y.2 j k hk).1,?_,λw hw=>?_⟩⟩
 .by_cases e:k.addr=L
  .cases k with
   | dict a z=>obtain rfl:a=L:=e;exact⟨_,hm'⟩
   | cell a=>exact absurd e<|(y.2 j _ hk).1 a rfl
  .have:=(y.2 j k hk).2.1
   cases k with
   | dict a z=>exact aR this λm u=>⟨m,nsk e u⟩
   | cell a=>exact aR this λm u=>⟨m,clk e u⟩
 .have hw:(if j=i then none else O j)=some w:=hw;by_cases q:j=i
  .rw[if_pos q]at hw;exact bz hw
  rw[if_neg q]at hw;have:=(y.2 j k hk).2.2 w hw;by_cases e:k.addr=L
  .obtain⟨a,x',z,rfl,e2,n⟩:=ap j k hk q e;cases e2;exact aR this λm' r=>⟨_,hm',(if_neg n).trans<|xO r.1 hm▸r.2⟩
  .cases k with
   | dict a z=>exact aR this λm u=>⟨m,nsk e u.1,u.2⟩
   | cell a=>exact clk e this
theorem name_goes{x:Str}{Q:Unit->Shared->Prop}(ok:Fo X)(hv:X.U.vars.lookup x=some i)(hxl:X.U.names.lookup x=some .local)(y:Fr X O Y T s)(hn:∀sl,Y[i]? = some sl->sl = .no)(h:∀s',Fr X (λj=>if j=i then none else O j) Y T s'->Q () s') :
  wpAny (model prog w) X.A (do bindName X.env x .none;unbindBehindTheSuite X.env x pos) Q E s:=by
 have hk:=(ok.kd x).trans hxl;have el:X.ls i=some (.dict X.L x):=by
  rcases X.var x i hv with⟨_,el⟩ | ⟨q | ⟨q,_⟩,_⟩
  .rw[ok.le]at el;exact el
  .rw[hk]at q;cases q
  .rw[hk]at q;cases q
 obtain⟨Z,z⟩:=y.sat;obtain⟨m,hm⟩:=(z.ok _ aa).1;refine wpAny_nameGoes_keeps hk (by rw[ok.le];exact hm) (by rw[X.kind];rfl) λh' v hn' sb=>h _ ?_;rw[ok.le]at hn' sb;refine⟨⟨Z,?_⟩,λpx o dx e=>(if_neg<|X.nsi (by rw[e];exact λq=>bz q.symm) x i hv).trans<|y.slf px o dx e⟩;unfold Cx.W;rw[show X.U.as.map (λj=>if j=i then none else O j)=X.U.as.map O from dG λj hj=>if_neg λq=>by rw[q]at hj;rw[X.asl i hj]at el;exact bz el,
  show Sk (λj=>if j=i then none else O j) 0 Y=Sk O 0 Y from hZ λj sl e n=>if_neg λq=>by rw[aX]at q;subst q;exact n<|hn sl e]
 exact bD.one (tk:=s.toks+1) z (λa o e n=>sb.extBut a o (λq=>n<|.inl q) e) (λj0_ z=>z) (λj0_ z=>.inl z) (Pf (z.ok _ aa) el (λj k hk n e=>X.ap j i k _ hk el n e) (λa o q e=>sb.extBut a o q e) hm hn') λa q=>⟨.inl q,z.nz _ aa a q⟩
theorem E2{x cn:Str}{d:DefRec}{p hp pos p1 p2 p3 p4 pt rp:Pos}{kk kt f i:Nat}(ok:Fo X)(hx:X.U.isV x i)(hxl:X.U.names.lookup x=some .local)(hg:X.U.isG cn)(hm:cn∈tb.hc/\(tb.hb cn).all tb.cl.contains=true)(hf:tb.fn[f]? = some d/\f<tb.m0)(hgd:X.U.isG d.name)(Hb:SS X (execs body X.env) (exSs X.c xb)) :
  SS X (exec (.Try body [.ExceptHandler (some<|.Name cn p) (some x) [.Return (some<|.Tuple [.Constant (.bool false) kk p1,.Call (.Name d.name p2) [.Name x p3] [] p4] kt pt) rp] hp] [] [] pos) X.env) (jF X.c<|.tryw xb (tb.hb cn) i f):=λO T s Y out h y=>by
 rw[uU]at h;have hh:=pZ h;have hd:=bK.mpr hh.1;refine xo (λe=>PN X.c e (tb.hb cn) i f) (λq=>nomatch q) Hb (λ{O Y nm a s} pp h=>?_) hh.2 y;have h:=Cv h;refine aR (cE h.2) λdd hw=>?_;have hn:nm∈tb.cl:=bJ.mp<|aB.mp hm.2 nm<|bJ.mp h.1.1;have p':=pp;obtain⟨nm',a',P,e1,e2,tr,y⟩:=p';cases e1;cases e2;refine aR (X.gd.ask cn hm.1) λSA J=>?_;refine wpAny_handleBy_cons (codeAny_handlers_test<|fq (X:=tH X a) y.base hg J.1 ?_) (by intro q;cases q);obtain⟨oe,C,q⟩:=tr.ask;rcases q with⟨he,hC,hc⟩ | q;rotate_left
 .exact absurd X.gd.g q
 refine J.2 nm hn C hC prog w _ _ s a oe y.base he hc _ ?_;rw[h.1.1];refine codeAny_handlers_suite_as<|PY.fly (X:=tH X a) pp.mark λgJ il=>?_;obtain⟨nm',a',P',e1,e2,Ni,oJ⟩:=il;cases e1;cases e2;have yw:Fr (tH X a) O (Y.set i .no) (cA (some<|.ref a) nm::T) gJ:=Fr.forget (Fr.map (P:=[_]) (P':=[_]) oJ λR y=>gh.exc Ni y) i;refine qF (X:=tH X a) yw hx.1 (ok.nf x i hx.1) (λj0_=>oQ) λvx Ar=>?_;refine wpAny_execs_cons<|rz<|Tuple_<|n8 (aK (oS (X:=tH X a) (.bool false) _ _ _ _ _ rfl Ar) (λv1 yF Qj=>?_) λj0_ j1_ x=>x.no) rfl;obtain⟨r1,q1,_,Ey⟩:=Qj;obtain rfl:=ky q1;obtain⟨fa,o,hmg,ho,⟨pm,code,doc,hdat⟩,hfa⟩:=qA.of X hf;refine n8 (fB rfl<|fq (X:=tH X a) Ey.base hgd hmg<|jB (o:=o) (fd:=Calls.docDef d.name d.params d.body d.scope pm code doc)<|bS<|bG<|l9 (X:=tH X a) Ey hx lS<|cD ⟨⟨Ey.base fa o ho,hdat⟩,?_⟩) rfl;have sat:=(Ey.perm (T':=cA (some<|.ref a) nm::(zA (some v1) (.bool false)::T))<|bp 3 [1,0,2] (by decide) [[_],[_],T] rfl).sat;refine wpAny_call<|n9 (X.wd f nm dd hw.1 d hf.1 fa hfa (tH X a).A _ a yF (aV (eF<|af (af (aq _ _)<|aq _ _)<|X.dep hd)<|aQ _) (af (ey (aq _ _) 7)<|X.un hd) (tH X a).frs (show gh yF (cA (some<|.ref a) nm::(tH X a).W (upd O i<|.ref a) (Y.set i .no) (zA (some v1) (.bool false)::T)) from sat.perm<|g8 _ _ _ [cA (some<|.ref a) nm] _)) λr AL z=>?_;obtain⟨v2,rfl,z⟩:=z;have P5:Fr (tH X a) (upd O i<|.ref a) (Y.set i .no) (zA (some v2) dd::(zA (some v1) (.bool false)::T)) AL:=⟨n5 (P:=[_]) z,Ar.slf⟩
 refine spliced_none ?_;obtain⟨Z,w⟩:=P5.sat;refine cc ?_<|sf (ws:=[v1,v2]) (by show 2<=1000;decide);have q:=Op.newT (n:=0) (Z:=Z) (s:=AL) (O:=[v1,v2]) (V:=[.bool false,dd]) (.cons (.dz w<|em<|ac _ aa)<|.cons (.dz w<|em aa) .nil) (by show 2<=Sz;decide);have P4:Fr (tH X a) (upd O i<|.ref a) (Y.set i .no) (tA (.fz<|.tuple [.bool false,dd]) (.ref AL.heap.objs.size)++(zA (some v2) dd::(zA (some v1) (.bool false)::T))) _:=⟨n5<|q.sat w,Ar.slf⟩
 have P0:Fr X (upd O i<|.ref a) (Y.set i .no) (zA (some<|.ref AL.heap.objs.size) (.tuple [.bool false,dd])::T) _:=Fr.unmark<|Fr.map (P:=[_,_,_]) (P':=[_]) P4 λR y=>y.sub<|List.Sublist.cons_cons _<|.cons _<|.cons _<|List.Sublist.refl _;refine name_goes ok hx.1 hxl P0 (λj0_=>oQ) λs' yf=>?_;have pin:i∉X.c.pin:=λq=>by have:=bJ.mpr q;rw[h.1.2]at this;exact ff this.symm
 refine bO hw.2▸ .ret _ (.fz<|.tuple [.bool false,dd]) (.ref AL.heap.objs.size) _ rfl rfl rfl (λj hj=>?_) yf;have ne:j≠i:=λq=>pin<|q▸hj;exact(if_neg ne).trans<|gP ne
end
end Mv
end
section
namespace Mv
open PySem PyProof.Rows
def c9(U:Sc) :Sg:=(List.range tb.an.length).map λk=>U.hi+k
def k9(U:Sc)(k:Nat)(x:Str) :Sc:= {U with sn:=x,ats:=tb.an.zip<|c9 U,hi:=U.hi+tb.an.length+1,k:=k}
section
variable {U:Sc}{x:Str}
theorem gu:(c9 U).length=tb.an.length:=by unfold c9;rw[ai,aO]
theorem yX{k j:Nat}(h:(c9 U)[k]? = some j) :k<tb.an.length/\j=U.hi+k:=by unfold c9 at h;rw[bn]at h;refine aR (aT.mp h) λm q=>?_;refine Er q.2.symm ?_;obtain⟨h1,h2⟩:=av.mp q.1;rw[aO]at h1;rw[List.getElem_range]at h2;exact⟨h1,by exact Er h2 rfl⟩
theorem yW{k:Nat}(h:k<tb.an.length) :U.hi+k∈c9 U:=by unfold c9;exact aH.mpr ⟨k,aW.mpr h,rfl⟩
theorem g9:(k9 U kk x).as=c9 U:=by
 show(tb.an.zip<|c9 U).map (·.2)=c9 U
 exact List.map_snd_zip<|Nat.le_of_eq gu
theorem oE:∀{as:Sd}{is:Sg}{a:Str}{j:Nat},(as.zip is).lookup a=some j-> ∃k:Nat,as[k]? = some a/\is[k]? = some j:=by intro as;induction as with
 | nil=>intro is a j h;exact bz h
 | cons b as ih=>intro is a j h;cases is with
  | nil=>exact bz h
  | cons m is=>rw[pU,aU]at h;cases e:a==b with
   | true=>have h:=e▸h;refine Er (bO h).symm ?_;exact⟨0,by refine Er (cZ.mp e) ?_;rfl,rfl⟩
   | false=>have h:=e▸h;exact aR (ih h) λk q=>(⟨k+1,q.1,q.2⟩)
theorem o4:(c9 U).Nodup:=by unfold c9;exact List.Pairwise.map _ (λa b h q=>h<|Nat.add_left_cancel q) List.nodup_range
theorem hG(h:j∈c9 U) :U.hi<=j/\j<U.hi+tb.an.length:=by obtain⟨k,hk⟩:=List.getElem?_of_mem h;have q:=yX hk;exact⟨q.2▸aq _ _,q.2▸fV q.1 _⟩
theorem D9:tb.an≠ []:=λq=>nomatch q
theorem NO(h:U.hi<=j)(h':j<U.hi+(tb.an.length+1))(hne:tb.an≠ []) :j∈nx (c9 U):=by
 rcases Nat.lt_or_ge j (U.hi+tb.an.length) with q | q
 .refine ac _ ?_;have:=yW (U:=U) (k:=j - U.hi)<|Nat.sub_lt_left_of_lt_add h q;rw[cw h]at this;exact this
 .have e:j=U.hi+tb.an.length:=dM (rB h') q;have hl:(c9 U).getLast? = some (U.hi+(tb.an.length - 1)):=by refine Er (List.getLast?_eq_getElem?)<|Er gu ?_;unfold c9;refine Er bn<|Er (nR<|Nat.sub_lt (dH.mpr hne) Nat.one_pos) ?_;rfl
  unfold nx;refine Er hl<|Er e ?_;show U.hi+tb.an.length∈(U.hi+(tb.an.length - 1)+1)::c9 U
  rw[dv];exact Er (fi<|dH.mpr hne) aa
theorem BO{k:Nat}(h:k<2) :tb.m0<=mi k/\kf (mi k)=k:=by
 rcases k with _ | _ | k
 .exact⟨aQ _,rfl⟩
 .exact⟨by show 44<=51;decide,rfl⟩
 .exact absurd h (bM.mpr<|eJ 2 k)
end
variable [Hp]
section
variable {X:Cx}{O vs':bV}{Y:Fm}{T W:List At}{s s':Shared}{Z:Ss}{ws:Si}{V:Sb}{kk:Nat}{x:Str}{px dx:Addr}{ox:Obj}
theorem bD.pad:∀{l:List α}{as:Sg},bD Z s W->bD Z s (jJ (l.map λj0_=>none) (iJ as)++W):=by intro l;induction l with
 | nil=>exact λy=>y
 | cons a l ih=>intro as y;cases as with
  | nil=>exact y
  | cons i as=>exact bD.nw (tk:=s.toks) (ih y) (λj0_ j1_ e=>e) (λj0_ z=>z) (λj0_ z=>.inl z) trivial λj0_ h=>h.elim
theorem Ay:∀{ws:Si}{V:Sb},jJ (ws.map some) (V.map .fz)=zs ws V:=by intro ws;induction ws with
 | nil=>exact rfl
 | cons u ws ih=>intro V;cases V with | nil=>rfl | cons d V=>exact congrArg (zA (some u) d :: ·) ih
theorem uw:∀{V:Sb}{ws:Si},gn (V.map .fz) ws=[]:=by intro V;induction V with
 | nil=>exact rfl
 | cons d V ih=>intro ws;cases ws with | nil=>rfl | cons u ws=>exact ih
theorem Cp(h:PL o=true) :o = .ok (.fz .none):=by
 rcases o with e | (d | d | p)
 .exact tf h
 .cases d <;> first | rfl | exact tf h
 .exact tf h
 .exact tf h
theorem BA{d:DefRec}{C:Addr}{as:Sg}{Q:Sr}(hhd:X.c.hd = false)(hcr:tb.cr kk = some cr/\kk < 2)(hC:mg cr.name = some (.ref C))(hd:tb.fn[mi kk]? = some d)(hdn:d.name = "__init__")(hal:as.length = tb.an.length)
  (y:Fr X O Y (zs ws V++T) s) (lw:ws.length=V.length) (hc:X.c.call (mi kk) (iJ as++V.map .fz)=some (o,outs)) (hn:PL o=true)
  (K:∀x ox dx SM s',Ei kk ox dx x->SM.length=tb.an.length->outs.length=tb.an.length->Fr X O Y (nA x ox dx SM::(jJ SM outs++T)) s'->Q (.ref x) s') :wpAny (model prog w) X.A (call (.ref C) ws) Q E s:=by
 obtain⟨C',N,mN,hC',P,hna,hme⟩:=X.gd.pl kk cr hcr.1;rw[hC]at hC';cases hC';obtain⟨hmem,hnn,z,hz⟩:=hme (mi kk) d (BO hcr.2) hd;obtain⟨fa,fo,pm,cd,doc,h1,h2,h3,h4,h5⟩:=P.meths _ hmem;have slf:=y.slf;obtain⟨Z,y⟩:=y.sat;obtain⟨hp,g,dd0,t,os⟩:=s;obtain⟨nm,q,bs,sn,sub,col,ddd,k0,k1,k2,k3,k5,hCo⟩:=(P.cls.keeps y.base).obj;refine wpAny_call_obj_init PySem.F.objNew hCo (P.cls.keeps y.base).ns (by rw[<- hdn];exact h1) (y.base _ _ h2) h3 λh' x dx Mk=>?_;refine aR Mk.inst λox Sv=>?_;have hdd:=Mk.dict ox Sv.1;obtain⟨hne,hnsd⟩ :dx≠x/\h'.Ns1 dx λj0_=>none:=by
  rcases Sv.2.2.2 with⟨hn0,_⟩ | ⟨d',hd',hne',hns'⟩
  .rw[hn0]at hdd;exact bz hdd
  .rw[hd']at hdd;exact bO hdd▸⟨hne',hns'⟩
 have nz:∀{a},hp.get? a=none-> ¬Z a:=λe z=>aR (y.zl _ z) λo q=>by rw[show hp.get? _=none from e]at q;exact bz q
 have y:bD (λa=>Z a\/a=x) ⟨h',g,dd0,t,os⟩ (nA x ox dx (as.map λj0_=>none)::X.W O Y (zs ws V++T)):=y.nw (tk:=t) Mk.keeps (λj0_ z=>.inl z) (λa z=>z.imp id λq=>by subst q;exact⟨Mk.newX,_,Sv.1⟩)
  ⟨⟨.inr rfl,Sv.1⟩,_,⟨hnsd,λz n=>absurd rfl n⟩,λk a v j0_ e=>by rw[bn]at e;obtain⟨_,_,q⟩:=aT.mp e;exact bz q⟩ λa q=>by obtain rfl:a=dx:=q;exact⟨Mk.newD,λz=>z.elim (nz Mk.newD) λq=>hne q⟩
 have sat:gh ⟨h',g,dd0,t,os⟩ (iA (some (x,ox,dx)) (as.map λj0_=>none)++(jJ (as.map (λj0_=>none)++ws.map some) (iJ as++V.map .fz)++X.W O Y T)):=by rw[og (by unfold iJ;rw[ai,ai]),Ay,ah];refine⟨_,bD.perm (y.pad (l:=as) (as:=as)) ?_⟩;unfold Cx.W;rw[ah];exact bp 8 [1,0,5,2,3,4,6,7] (by decide) [jJ (as.map λj0_=>none)<|iJ as,[_],[_],iA X.J<|X.U.as.map O,Sk O 0 Y,zs ws V,T,X.K] rfl
 have key:=X.cs (mi kk) _ o outs hc d hd (some (x,ox,dx)) fa ⟨⟨λq=>bz q.symm,λq=>absurd (BO hcr.2).1 (pR.mpr q)⟩,(λx' o' dx' e=>by cases e; exact (BO hcr.2).2.symm▸⟨⟨cr,C,hcr.1,hC,Sv.2.1⟩,Sv.2.2.1,hdd,hne⟩),fo,_,pm,cd,doc,h2,h4,h5⟩ (X.A.under (.builtin "type.__call__" ⟨.ref C :: ws,[]⟩)) (X.W O Y T) (as.map λj0_=>none) ws ⟨h',g,dd0,t,os⟩
  (by show X.A.depth+1+2*X.n<=999;have:=X.dep hhd;omega) (by show X.A.units+1+10*X.n<=4000;have:=X.un hhd;omega) (X.hh hhd) X.frs (by rw[ai];exact hal) (by rw[aj,ai,ai,lw];unfold iJ;rw[ai]) sat
 refine wpAny_call<|n9 key λr s' P=>?_;obtain⟨SM,l1,_,l2,R⟩:=P;rw[ai]at l1 l2;have ed:(iJ as++V.map Slot.fz).drop as.length=V.map .fz:=by rw[show as.length=(iJ as).length from(ai _).symm,List.drop_left]
 rw[ai,ed,uw,aI]at R;rw[ed,uw]at l2;cases R with
 | err nm a P e _ _=>rw[Cp hn]at e;exact LL e
 | ok rv v e e' R=>rw[Cp hn]at e;obtain rfl:=ky e;subst e';refine⟨?_,K x ox dx SM s' ⟨⟨cr,C,hcr.1,hC,Sv.2.1⟩,Sv.2.2.1,hdd,hne⟩ (l1.trans hal) (l2.trans hal) ⟨n5 (P:=nA x ox dx SM::jJ SM outs)<|gh.drop (P:=[_]) R,slf⟩⟩;exact aR R λZ R=>aR (R.ok _ aa) λu r=>by rw[bO r.1];exact(dW.dat r.2).none
end
end Mv
end
section
namespace Mv
open PySem PyProof.Rows
variable [Hp]
noncomputable def jU(ls:Lay)(j:Nat)(l:Loc) :Lay:=λi=>if i=j then some l else ls i
section
variable {ls:Lay}{i j:Nat}{l k:Loc}
theorem oj:jU ls j l j=some l:=if_pos rfl
theorem kB(h:i≠j) :jU ls j l i=ls i:=if_neg h
theorem kC(h:jU ls j l i=some k) :(i=j/\k=l)\/(i≠j/\ls i=some k):=by
 by_cases q:i=j
 .subst q;rw[oj]at h;exact .inl ⟨rfl,(bO h).symm⟩
 .rw[kB q]at h;exact .inr ⟨q,h⟩
end
structure pO(X:Cx)(kk:Nat)(x:Str)(px:Addr)(ox:Obj)(dx:Addr) :Prop where
 fo:Fo X
 nm:X.U.names.lookup x=some .local
 nv:X.U.vars.lookup x=none
 na:X.U.ats=[]
 ins:Ei kk ox dx px
 ncl:∀j a,X.ls j=some (.cell a)->a≠X.L
section
variable {X:Cx}{kk:Nat}{x:Str}{px dx:Addr}{ox:Obj}
theorem pO.nl(q:pO X kk x px ox dx){k:Loc}(h:X.ls j=some k)(e:k.addr=X.L) :∃z,k = .dict X.L z/\z≠x:=by cases k with
 | dict a z=>obtain rfl:a=X.L:=e;exact⟨z,rfl,λe=>by subst e;exact(q.fo.lv j z h).elim (λn=>n q.nv) λn=>n q.na⟩
 | cell a=>exact absurd e<|q.ncl j a h
theorem Cx.lo(X:Cx){l:Loc}(h:X.ls j=some l) :j≠X.U.hi+tb.an.length:=λq=>pR.mpr (X.hi j l h)<|q▸aq _ _
def newX(X:Cx)(q:pO X kk x px ox dx) :Cx:= {X with
 U:=k9 X.U kk x
 ls:=jU X.ls (X.U.hi+tb.an.length)<|.dict X.L x
 J:=some (px,ox,dx)
 si:=X.U.hi+tb.an.length
 hi:=λj l h=>(kC h).elim (λu=>u.1▸dZ _) λu=>aV (X.hi j l u.2)<|af (aq _ _)<|aq _ 1
 ap:=λi j l k h1 h2 ne e=>by
  rcases kC h1 with⟨rfl,rfl⟩ | ⟨n1,h1⟩ <;> rcases kC h2 with⟨rfl,rfl⟩ | ⟨n2,h2⟩
  .exact absurd rfl ne
  .exact aR (q.nl h2 e.symm) λz u=>⟨X.L,x,z,rfl,u.1,u.2.symm⟩
  .exact aR (q.nl h1 e) λz u=>⟨X.L,z,x,u.1,rfl,u.2⟩
  .exact X.ap i j l k h1 h2 ne e
 var:=λz j h=>(X.var z j h).imp (λu=>⟨u.1,(kB<|X.lo u.2).trans u.2⟩) λu=>⟨u.1,aR u.2 λc u=>⟨c,u.1,(kB<|X.lo u.2).trans u.2⟩⟩
 ins:=λj0_=>⟨λh=>bz h.symm,(q.fo.kd x).trans q.nm,by rw[q.fo.le];exact oj⟩
 inj:=λx' o' dx' e=>by cases e;exact q.ins
 an:=λj0_=>⟨by rw[g9];exact gu,λa i h=>aR (oE h) λk u=>⟨k,u.1,by rw[g9];exact u.2⟩⟩
 nsi:=λj0_ z j h e=>aR (X.loc h) λl hl=>X.lo hl e.symm
 asl:=λi hi=>by
  rw[g9]at hi;have u:=hG hi;refine(kB<|bW u.2).trans ?_;cases e:X.ls i with
  | none=>rfl
  | some l=>exact absurd (X.hi i l e)<|bM.mpr u.1
 asn:=by rw[g9];exact o4
 sin:=λj0_ hi=>by rw[g9]at hi;exact fN _ (hG hi).2}
theorem KW(q:pO X kk x px ox dx) :Fo (newX X q):=
 have ne:(newX X q).U.ats≠ []:=λe=>by
  have:((k9 X.U kk x).as).length=0:=by show(List.map _ (k9 X.U kk x).ats).length=0;rw[show(k9 X.U kk x).ats=[] from e];rfl
  rw[g9,gu]at this;exact D9<|List.length_eq_zero_iff.mp this
 {nf:=q.fo.nf,ni:=q.fo.ni,kd:=q.fo.kd,le:=q.fo.le,lv:=λj0_ j1_ j2_=>.inr ne,sl:=λe=>absurd e ne,pn:=λi hi=>aV (q.fo.pn i hi) (af (aq _ _)<|aq _ 1)}
variable {O vs':bV}{Y:Fm}{T:List At}{s s':Shared}{h':Heap}{tk:Nat}{SM:List So}{outs:List Slot}
def qf(X:Cx)(O:bV)(SM:List So)(px:Addr) :bV:=upd (nS O (c9 X.U) SM) (X.U.hi+tb.an.length)<|.ref px
theorem r9(h:j<X.U.hi) :qf X O SM px j=O j:=(gP λq=>bM.mpr (aq _ _)<|q▸h).trans<|je λm=>bM.mpr (hG m).1 h
theorem xQ(l:SM.length=tb.an.length) :(c9 X.U).map (qf X O SM px)=SM:=(dG λj hj=>gP<|bW (hG hj).2).trans<|oM o4<|l.trans gu.symm
theorem z5{as:Sg} :∀{Y:Fm},(∀i∈as, ∀sl,Y[i]? = some sl->sl = .no)->clr Y as=Y:=by induction as with
 | nil=>exact λj0_=>rfl
 | cons i as ih=>
  intro Y h;have e:Y.set i .no=Y:=by
   refine List.ext_getElem? λj=>?_;rw[rD];by_cases q:i=j
   .subst q;rw[if_pos rfl];by_cases l:i<Y.length
    .rw[if_pos l,aw l,h i aa _<|aw l]
    .rw[if_neg l,cW.mpr<|Nat.le_of_not_lt l]
   .rw[if_neg q]
  show clr (Y.set i .no) as=Y
  rw[e];exact ih λi hi=>h i<|ac _ hi
theorem Fr.more(q:pO X kk x px ox dx)(hJ:X.J=none)(l:SM.length=tb.an.length)(lo:outs.length=tb.an.length)(y:Fr X O Y (nA px ox dx SM::(jJ SM outs++T)) s)(kp:∀b o,b≠X.L->s.heap.get? b=some o->h'.get? b=some o)(hm:s.heap.Ns X.L m)(hm':h'.Ns X.L λz=>if z=x then some (.ref px) else m z) :
  Fr (newX X q) (qf X O SM px) (f6 (Mv.clr Y<|nx<|c9 X.U) (c9 X.U) outs) T {s with heap:=h',toks:=tk}:=by
 have y:=y.clr<|nx<|c9 X.U;have cn:∀j,X.U.hi<=j->j<X.U.hi+tb.an.length+1-> ∀sl,(Mv.clr Y<|nx<|c9 X.U)[j]? = some sl->sl = .no:=λj h1 h2 sl e=>wY (NO h1 h2 D9) e;have e0:Mv.clr (Mv.clr Y<|nx<|c9 X.U) (c9 X.U)=Mv.clr Y (nx<|c9 X.U):=z5 λi hi sl e=>cn i (hG hi).1 (ki (hG hi).2) sl e;refine Fr.puts (X:=newX X q) o4 (lo.trans gu.symm) ?_;rw[xQ l,e0];generalize Mv.clr Y (nx<|c9 X.U)=f at y cn;refine⟨aR y.sat λZ y=>⟨Z,?_⟩,λx' o' dx' e=>by cases e;exact lS⟩;have y:bD Z s (bA X.L X.ls O::([]++(Sk O 0 f++((nA px ox dx SM::(jJ SM outs++T))++X.K)))):=by unfold Cx.W at y;rw[hJ]at y;exact y
 have eS:Sk (qf X O SM px) 0 f=Sk O 0 f:=hZ λj sl e n=>by
  rw[aX];by_cases q:j<X.U.hi
  .exact r9 q
  .by_cases q':j<X.U.hi+tb.an.length+1
   .exact absurd (cn j (bM.mp q) q' sl e) n
   .exact(gP λ(e:j=X.U.hi+tb.an.length)=>q'<|e▸dZ _).trans (je λm=>q'<|ki (hG m).2)
 have b:=y.ok _ aa;have b1:(bA X.L (jU X.ls (X.U.hi+tb.an.length)<|.dict X.L x) (λj=>if j<X.U.hi then O j else none)).ok Z s.heap:=⟨b.1,λj k hk=>by
  rcases kC hk with⟨rfl,rfl⟩ | ⟨n,hk⟩
  .exact⟨λj0_ q=>(nomatch q),⟨m,hm⟩,λv e=>bz<|(if_neg<|bM.mpr<|aq _ _).symm.trans e⟩
  .have u:=b.2 j k hk;exact⟨u.1,u.2.1,λv e=>u.2.2 v<|(if_pos<|X.hi j k hk).symm.trans e⟩⟩
 have b2:=DZ (v:=.ref px) b1 oj (λj k hk n e=>(newX X q).ap j _ k _ hk oj n e) (h':=h') kp ⟨m,hm,hm'⟩;have eb:bA X.L (jU X.ls (X.U.hi+tb.an.length)<|.dict X.L x) (qf X O SM px)=bA X.L (jU X.ls (X.U.hi+tb.an.length)<|.dict X.L x) (upd (λj=>if j<X.U.hi then O j else none) (X.U.hi+tb.an.length)<|.ref px):=D0 λj k hk=>by
  rcases kC hk with⟨rfl,rfl⟩ | ⟨n,hk⟩
  .unfold qf;rw[lS,lS]
  .rw[r9<|X.hi j k hk,gP n,if_pos<|X.hi j k hk]
 have z:bD Z {s with heap:=h',toks:=tk} (bA X.L (jU X.ls (X.U.hi+tb.an.length)<|.dict X.L x) (qf X O SM px)::(Sk O 0 f++((nA px ox dx SM::(jJ SM outs++T))++X.K))):=by rw[eb];refine bD.one (tk:=tk) y (λb o e n=>kp b o (λq=>n<|.inl q) e) (λj0_ z=>z) (λj0_ z=>.inl z) b2 λa w=>?_;have w':(bA X.L X.ls O).own a:=w.elim .inl λw=>kL w λj k u=>(kC u.1).elim (λe=>.inl (by rw[<- u.2,e.2];rfl)) λe=>.inr ⟨j,k,e.2,u.2⟩;exact⟨.inl w',y.nz _ aa a w'⟩
 show bD Z _ (bA X.L (jU X.ls _ _) _::([nA px ox dx<|(k9 X.U kk x).as.map<|qf X O SM px]++(Sk (qf X O SM px) 0 f++((jJ SM outs++T)++X.K))))
 rw[g9,xQ l,eS];exact z.perm<|bp 5 [0,2,1,3,4] (by decide) [[_],Sk O 0 f,[nA px ox dx SM],jJ SM outs++T,X.K] rfl
theorem Fr.unmore(q:pO X kk x px ox dx)(hJ:X.J=none)(y:Fr (newX X q) O Y T s) :Fr X O (Mv.clr Y<|nx<|c9 X.U) T s:=by
 have y:=y.clr<|nx<|c9 X.U;generalize Mv.clr Y (nx<|c9 X.U)=f at y |-;refine⟨aR y.sat λZ y=>⟨Z,?_⟩,λx' o' dx' e=>by rw[hJ]at e;exact bz e⟩;have y:bD Z s (bA X.L (jU X.ls (X.U.hi+tb.an.length)<|.dict X.L x) O::([nA px ox dx<|(newX X q).U.as.map O]++(Sk O 0 f++(T++X.K)))):=y;have b:=y.ok _ aa;have wo:∀a,(bA X.L X.ls O).own a->(bA X.L (jU X.ls (X.U.hi+tb.an.length)<|.dict X.L x) O).own a:=λa w=>w.imp id λw=>kL w λj l u=>⟨j,l,(kB<|X.lo u.1).trans u.1,u.2⟩
 have z:bD Z s (bA X.L X.ls O::([nA px ox dx<|(newX X q).U.as.map O]++(Sk O 0 f++(T++X.K)))):=bD.one (tk:=s.toks) y (λj0_ j1_ e j2_=>e) (λj0_ z=>z) (λj0_ z=>.inl z) ⟨b.1,λj l hl=>b.2 j l<|(kB<|X.lo hl).trans hl⟩ λa w=>⟨.inl<|wo a w,y.nz _ aa a<|wo a w⟩
 unfold Cx.W;rw[hJ];exact z.sub<|List.Sublist.cons_cons _<|b8 _ _
end
section
variable {X:Cx}{kk:Nat}{x:Str}
theorem Df{c:gR}{z:St}{out:Se dU×Fm}(h:exSs c [z] Y=some out) :jF c z Y=some out:=by rw[m4]at h;rcases q:jF c z Y with _ | ⟨_ | ⟨_ | r⟩,f⟩ <;> rw[q]at h <;> exact h
theorem JW{p np cpos pos:Pos}(ok:Fo X)(hcr:tb.cr kk = some cr/\kk < 2)(hg:X.U.isG cr.name)(hx:X.U.ats = []/\X.U.names.lookup x = some .local/\X.U.vars.lookup x = none/\(x == ("__debug__" :Str)) = false)
  (F:F2 (λe x=>CE X.U e x/\SE X (eval e X.env) (ev X.c x)) args S) (hne:args≠ []/\(∃d,tb.fn[mi kk]? = some d/\d.name = "__init__")) (Hb:∀X':Cx,X'.U = k9 X.U kk x->Fo X'->SS X' (execs rest X'.env) (exSs X'.c body)) :
  SS X (execs (.Assign [.Name x p] (.Call (.Name cr.name np) args [] cpos) pos::rest) X.env) (exSs X.c [.new (mi kk) (c9 X.U) S body]):=by
 intro O T s Y out h y;have h:=Df h;have hg':=pZ h;have hh:=bK.mpr hg'.1;have hJ:=ok.sl hx.1;obtain⟨hne,d,hd,hdn⟩:=hne;obtain⟨C,N,mN,hC,P,_⟩:=X.gd.pl kk cr hcr.1;refine wpAny_execs_cons<|wpAny_Assign_Name (fB rfl<|fq y.base hg hC ?_) rfl;cases args with
 | nil=>exact absurd rfl hne
 | cons e es=>
 cases S with
 | nil=>exact F.elim
 | cons z zs'=>
 refine callWith_cls P.cls ?_ (F.1.1.star X.env es) (by have q:=tW (pos:=cpos) F.2;rw[<- List.not_any_eq_all_not]at q;exact fJ _▸q);refine Ez<|nF (P:=[]) hg'.2 (λu e=>vG F O T s Y u e y) λrs bQ ws aM kX h p bE=>⟨bE.base,?_⟩;refine aR (cE h) λV z1=>aR (cE z1.2) λo z2=>?_;have z3:=Cv z2.2;refine aR (cE z3.2) λob z4=>?_;have cB:Fr X O bQ (zs ws V++T) aM:=by obtain⟨Z,z⟩:=bE.sat;have R:=jf z (λp hp=>em<|aC _ hp) p.len z1.1;exact Fr.mid (P:=zs ws V) ⟨n5 ⟨Z,z.vals R⟩,bE.slf⟩
 have lw:ws.length=V.length:=aR bE.sat λZ z=>(jf z (λp hp=>em<|aC _ hp) p.len z1.1).length;refine BA hh hcr hC hd hdn gu cB lw z2.1 z3.1 λpx ox dx SM s' ins la lo y'=>?_;have q:pO X kk x px ox dx:=⟨ok,hx.2.1,hx.2.2.1,hx.1,ins,λj a e=>aR y'.sat λZ z=>((z.ok _ aa).2 j _ e).1 a rfl⟩
 obtain⟨m,hm⟩ :∃m,s'.heap.Ns X.L m:=aR y'.sat λZ z=>(z.ok _ aa).1;refine wpAny_storeName_local ((ok.kd x).trans hx.2.1) (by rw[ok.le];exact hm) (λh' hn' G=>?_) (by rw[X.kind];rfl);rw[ok.le]at hn' G;have jC:=y'.more (tk:=s'.toks+1) q hJ la lo (λb o q e=>G.extBut b o q e) hm hn';have ag:Ag X (qf X O SM px) O:=λi hi=>r9<|ok.pn i hi;have e4:=bO z4.2;have e5:out.1=ob.1:=by rw[<- e4]
 have e6:out.2=clr ob.2 (nx<|c9 X.U):=by rw[<- e4]
 refine aK (Hb (newX X q) rfl (KW q) _ _ _ _ ob z4.1 jC) (λf gJ P=>?_) λe gJ P=>?_
 .cases P with
  | next vs' a b g x=>exact .next vs' (e5.trans a) b (Ag.trans (X:=X) g ag) (by rw[e6];exact x.unmore q hJ)
  | ret vs' r v d a b e g x=>exact .ret vs' r v d (e5.trans a) b e (Ag.trans (X:=X) g ag) (by rw[e6];exact x.unmore q hJ)
 .obtain⟨vs',g,nm,a,P,e1,e2,x⟩:=P;exact⟨vs',Ag.trans (X:=X) g ag,nm,a,P,e5.trans e1,e2,by rw[e6];exact x.unmore q hJ⟩
end
section
variable {X:Cx}{O:bV}{Y:Fm}{T P:List At}{s:Shared}{v:Value}{pos p:Pos}{e:Expr}{x:Ex}
theorem PX.dr{out:Se β×Fm}{e:Value}(x:PX X O (P++T) out e s) :PX X O T out e s:=by obtain⟨nm,a,Q,q,e1,x⟩:=x;exact⟨nm,a,Q,q,e1,Fr.map (P:=xA Q a nm::P) (P':=[xA Q a nm]) x λR y=>y.sub<|List.Sublist.cons_cons _<|b8 _ _⟩
theorem DV(m:dc α)(f:α->Fm->dc β)(g:β->Fm->dc γ) :bI (bI m f) g=bI m λa Y=>bI (f a Y) g:=by rcases m with _ | ⟨_ | _,_⟩ <;> rfl
theorem Ny{out:Se β×Fm}(hc:CE X.U e x)(H:SE X (eval e X.env) (ev X.c x)) :∀{es:Sn}{S:List Ex},F2 (λe x=>CE X.U e x/\SE X (eval e X.env) (ev X.c x)) es S-> ∀(T:List At)(s:Shared)(Y:Fm)(k:List Rv->Rv->Fm->dc β)(Q:Si->Shared->Prop),
  (bI (evs X.c S Y) λrs Y=>bI (ev X.c x Y) λr Y=>k rs r Y)=some out->Fr X O Y T s->(∀rs r aP ws v bC,k rs r aP=some out->mG O rs ws->Es O r v->Fr X O aP (tA r v++(tE rs ws++T)) bC->Q (ws++[v]) bC)->
  wpAny (model prog w) X.A (spliced<|backTo pos<|starEach (es++[e]) X.env) Q (PX X O T out) s:=by
 refine F2.rec' (M:=λes S=> ∀(T:List At)(s:Shared)(Y:Fm)(k:List Rv->Rv->Fm->dc β)(Q:Si->Shared->Prop),
  (bI (evs X.c S Y) λrs Y=>bI (ev X.c x Y) λr Y=>k rs r Y)=some out->Fr X O Y T s->(∀rs r aP ws v bC,k rs r aP=some out->mG O rs ws->Es O r v->Fr X O aP (tA r v++(tE rs ws++T)) bC->Q (ws++[v]) bC)->
  wpAny (model prog w) X.A (spliced<|backTo pos<|starEach (es++[e]) X.env) Q (PX X O T out) s) (λT s Y k Q h y K=>?_) λ{e' es x' S} H' F ih T s Y k Q h y K=>?_
 .have h:bI (ev X.c x Y) (λr Y=>k [] r Y)=some out:=h;exact n8 (im (P:=[]) h (λu e=>H O T s Y u e y) λr bQ v aM h p bE=>spliced_none<|K [] r bQ [] v aM h trivial p bE)<|hc.star X.env []
 .have h:bI (bI (ev X.c x' Y) λr' Y=>bI (evs X.c S Y) λrs Y=>some (.ok (r'::rs),Y)) (λrs Y=>bI (ev X.c x Y) λr Y=>k rs r Y)=some out:=h;rw[DV]at h;refine n8 (im (P:=[]) h (λu e=>H'.2 O T s Y u e y) λr' bQ v' aM h p bE=>?_)<|H'.1.star X.env<|es++[e];rw[DV]at h;exact aK (ih (tA (frz r') v'++T) aM bQ (λrs r Y=>k (r'::rs) r Y) (λl s'=>Q (v'::l) s') h bE.frzT λrs r aP ws v bC h p' pr cB=>K (r'::rs) r aP (v'::ws) v bC h ⟨p,p'⟩ pr (by show Fr X O aP (tA r v++((tE rs ws++tA (frz r') v')++T)) bC;rw[ah<|tE rs ws];exact cB)) (λj0_ j1_ q=>q) λj0_ j1_ p=>p.dr
theorem Mh{d:DefRec}{out:Se Rv×Fm}(hd:tb.fn[f]? = some d)(fa':qA f d none fa)(h:yn X.c f rs r Y=some out)(p:mG O rs ws)(x:Fr X O Y (tA r v++(tE rs ws++T)) s) :
  codeAny (model prog w) X.A (.call (.ref fa) ⟨ws++[v],[]⟩) (iF X O T [] (tG f) out) s:=by
 have hg:=pZ h;have hhd:=bK.mpr hg.1;refine aR (cE hg.2) λV h1=>aR (cE h1.2) λg h2=>aR (cE h2.2) λo hc=>?_;obtain rfl:r = .own g:=by cases r with
  | own g'=>exact congrArg _<|bO h2.1
  | _=>exact bz h2.1
 obtain⟨Z,z⟩:=x.sat;have R:=jf z (λp hp=>em<|aE _<|aC _ hp) p.len h1.1;have sat:gh s (jJ ((ws++[v]).map some) (V.map .fz++[.own g])++X.R none O Y T):=by rw[aY,og (by rw[ai,ai];exact R.length),Ay,ah];have y:=z.vals R;unfold Cx.W at y;rw[ah,ah]at y;exact⟨Z,(y.perm<|bp 8 [5,0,4,1,2,3,6,7] (by decide) [zs ws V,[bA X.L X.ls O],iA X.J<|X.U.as.map O,Sk O 0 Y,[oA (some v) g],tE rs ws,T,X.K] rfl).sub<|b8 _ _⟩
 refine n9 (X.cs f _ o.1 o.2 hc.1 d hd none fa fa' X.A _ [] (ws++[v]) s (kj<|X.dep hhd) (af (aq _ 7)<|X.un hhd) (X.hh hhd) (X.frok aa λp hp=>ac _<|aE _<|aE _<|aE _ hp) rfl (by rw[aj,aj,ai,R.length];exact(aX _).symm) sat) λr s' P=>?_;obtain⟨SM,l1,e1,l2,R⟩:=P;rw[DW hc.2];have bk:∀{P:List At}{A:List At},gh s' (P++([]++(A++X.R none O Y T)))->Fr X O Y (P++T) s':=λ{P A} z=>⟨n5<|z.sub<|List.Sublist.append (List.Sublist.refl P)<|b8 A _,x.slf⟩
 cases R with
 | ok rv v e1 e2 z=>rw[e1]at hc |-;exact .ok O v e2 (λj0_ j1_=>rfl) ⟨rv,rfl,xB hc.2,bk z⟩
 | err nm a P e1 e2 z=>rw[e1];exact .err O _ e2 (λj0_ j1_=>rfl) ⟨nm,a,P,rfl,rfl,bk (P:=[_]) z⟩
theorem Hu{R:Expr->Ex->Prop}{b:Ex}(h:R a b){as:Sn}(F:F2 R as bs) :F2 R (as++[a]) (bs++[b]):=
 F2.rec' (M:=λas bs=>F2 R (as++[a])<|bs++[b]) ⟨h,trivial⟩ (λH j0_ ih=>⟨H,ih⟩) F
theorem A5{d:DefRec}{es all:Sn}(hf:tb.fn[f]? = some d/\f<tb.m0)(hg:X.U.isG d.name)(F:F2 (λe x=>CE X.U e x/\SE X (eval e X.env) (ev X.c x)) es S)(hc:CE X.U e x)(H:SE X (eval e X.env) (ev X.c x))(ha:all=es++[e]) :SE X (eval (.Call (.Name d.name p) all [] pos) X.env) (ev X.c<|.callw f S x):=by intro O T s Y out h y;subst ha;obtain⟨a,o,hm,ho,⟨pm,code,doc,hd⟩,fa⟩:=qA.of X hf;refine fB rfl<|fq y.base hg hm<|jB (o:=o) (fd:=Calls.docDef d.name d.params d.body d.scope pm code doc)<|oz (Hu (And.intro hc H) F) ?_;exact Ny hc H F T s Y (yn X.c f) _ h y λrs r bQ ws v aM h p j0_ bE=>⟨⟨bE.base a o ho,hd⟩,iF.wp0 (rV<|if_pos hf.2)<|Mh hf.1 fa h p bE⟩
end
section
variable {X:Cx}{O:bV}{Y:Fm}{T:List At}{s:Shared}{i:Nat}{v:Value}{Q E:Sr}{x cn:Str}{pos p p1 p2:Pos}{yes no cs:Sd}{out:Se Rv×Fm}
theorem ut(y:∀a o,B.get? a=some o->s.heap.get? a=some o)(hx:X.U.isG x)(hv:mg x=some v\/(mg x=none/\mb x=some v))(h:Q v s) :wpAny (model prog w) X.A (eval (.Name x pos) X.env) Q E s:=
 hv.elim (λe=>fq y hx e h) λe=>pX X.kind (X.gl x hx.1) (Calls.loadGlobal_builtin (by rw[X.glob];exact X.gd.g.keeps y) e.1 (by rw[X.blt];exact X.gd.b.keeps y) e.2 h) hx.2
inductive Jt(X:Cx)(O:bV)(Y:Fm)(s:Shared)(i:Nat)(yes no:Sd)(b:Bool) :Prop
 | mk (a:Addr) (o:Obj) (k:Str) (C:Addr) :O i=some (.ref a)->s.heap.get? a=some o->(o.cls = .ref C/\o.dict=none/\ ∃O,o.data = .fields O)->mg k=some (.ref C)->(b=true/\k∈yes)\/(b=false/\k∈no)->Jt X O Y s i yes no b
theorem Co(h:ev X.c (.isx i yes no) Y=some out)(y:Fr X O Y T s) :∃b,out=(.ok<|.fz<|.bool b,Y)/\Jt X O Y s i yes no b:=by
 refine aR (cE h) λb z=>⟨b,(bO z.2).symm,?_⟩
 have z:=z.1;cases G:Y[i]? with
 | none=>rw[G]at z;exact bz z
 | some sl=>rw[G]at z;cases sl with
  | exc e=>
   have z:(if yes.contains e=true then some true else if no.contains e=true then some false else none)=some b:=z;have hb:(b=true/\e∈yes)\/(b=false/\e∈no):=by
    by_cases q:yes.contains e=true
    .rw[if_pos q]at z;exact .inl ⟨(bO z).symm,bJ.mp q⟩
    .rw[if_neg q]at z;have u:=gQ z;exact .inr ⟨u.2.symm,bJ.mp u.1⟩
   obtain⟨Z,y⟩:=y.sat;obtain⟨a,o,C,e1,e2,e3,m,e4,e5⟩:=y.ok _<|uq G;exact⟨a,o,e,C,e1,e2.2,e3,by rw[xO X.gd.g e4];exact e5,hb⟩
  | _=>exact bz z
theorem Ki(hg:X.U.isG "isinstance")(hx:X.U.isV x i)(hc:X.U.isG cn)(G:tb.sub.lookup cn = some (yes,no)) :SE X (eval (.Call (.Name "isinstance" p) [.Name x p1,.Name cn p2] [] pos) X.env) (ev X.c (.isx i yes no)):=by intro O T s Y out h y;obtain⟨SA,z⟩:=X.gd.askI cn yes no G;obtain⟨b,rfl,a,o,k,C,e1,e2,e3,e4,e5⟩:=Co h y;refine fB (args:=[.Name x p1,.Name cn p2]) rfl (e9 y.base hg (jr (.isi .int)) (kT (.isi .int)) (ot (.isi .int)) ?_);exact tu (b:=.isi .int) rfl (bS (bG (l9 y hx e1 (bG (ut y.base hc z.1 (cD (z.2 k C b e4 e5 prog w X.A _ s a o y.base e2 e3 _ λtk=>Fr.z y λj0_=>.bool b)))))))
theorem F5(y:∀a o,B.get? a=some o->s.heap.get? a=some o) :∀{es:Sn}{S:Sd}{Vs:Si},NS X.U es S->ju mg mb S Vs-> ∀{Q:Si->Shared->Prop},Q Vs s->wpAny (model prog w) X.A (spliced<|backTo pos<|starEach es X.env) Q E s:=by intro es S Vs hn;induction hn generalizing Vs with
 | nil=>intro hv Q h;cases Vs with | nil=>exact spliced_none h | cons=>exact hv.elim
 | cons hg t ih=>intro hv Q h;cases Vs with | nil=>exact hv.elim | cons v O=>exact n8 (ut y hg hv.1<|ih hv.2 h) rfl
theorem ju.len:∀{S:Sd}{Vs:Si},ju mg mb S Vs->Vs.length=S.length:=by intro S;induction S with
 | nil=>intro Vs h;cases Vs with | nil=>rfl | cons=>exact h.elim
 | cons x S ih=>intro Vs h;cases Vs with | nil=>exact h.elim | cons v O=>exact congrArg (· + 1)<|ih h.2
theorem Fp{k:Nat}(hg:X.U.isG "isinstance")(hx:X.U.isV x i)(hc:NS X.U es cs)(h1000:cs.length<=1000)(G:tb.sbt.lookup cs = some (yes,no)) :SE X (eval (.Call (.Name "isinstance" p) [.Name x p1,.Tuple es k p2] [] pos) X.env) (ev X.c (.isx i yes no)):=by intro O T s Y out h y;obtain ⟨Vs,z⟩:=X.gd.askT cs yes no G;obtain ⟨b,rfl,a,o,kn,C,e1,e2,e3,e4,e5⟩:=Co h y;refine fB (args:=[.Name x p1,.Tuple es k p2]) rfl (e9 y.base hg (jr (.isi .int)) (kT (.isi .int)) (ot (.isi .int)) ?_);refine tu (b:=.isi .int) rfl (bS (bG (l9 y hx e1 (bG (Tuple_ (k:=k) (F5 y.base hc z.1 ?_))))));refine cc (cD ?_) (by show Vs.toArray.size<=sizeLine; rw [ax,z.1.len,<- dR]; exact af h1000 (by decide));have kp:∀b o,s.heap.get? b = some o->(s.heap.push {cls:=.type "tuple",data:=.seq Vs.toArray}).get? b = some o:=pK _;have y':=y.grow (tk:=s.toks) kp;exact z.2 kn C b e4 e5 prog w X.A _ {s with heap:=s.heap.push {cls:=.type "tuple",data:=.seq Vs.toArray}} a s.heap.objs.size o y'.base (kp _ _ e2) e3 (bl _ rfl) _ λtk=>Fr.z y' λj0_=>.bool b
end
section
variable {X:Cx}{ea eb ec:Expr}{xa xb xc:Ex}{pos:Pos}{whole:Sem Value}
theorem EZ{o p:Cm}(Ha:SE X (eval ea X.env) (ev X.c xa))(Hb:SE X (eval eb X.env) (ev X.c xb))(Hc:SE X (eval ec X.env) (ev X.c xc))(hm:behindInMarks (iO p) ec=false) :ST X (isTrue (.Compare ea [iO o,iO p] [eb,ec] pos) X.env whole) (ev X.c<|.cmp2 o p xa xb xc):=by intro O T s Y out h hd x;refine isTrue_chain (im (P:=[]) h (λu e=>Ha O T s Y u e x) λr bQ v aM h Bh bE=>?_)<|o7 hm;refine test_link<|im (P:=tA r v) h (λu e=>Hb O _ aM bQ u e bE) λr' aP v' bC h lY cB=>?_;refine aR (cE h) λd z1=>aR (cE z1.2) λe z2=>aR (cE z2.2) λt z3=>aR cB.sat λZ y=>?_;refine fO (oZ z3.1 ((In.hd Bh).tl.dat y<|iT z1.1) ((In.hd lY).dat y<|iT z2.1) X.cl) λu gJ Bl=>?_;have il:=(cB.post y Bl).drop;obtain rfl:=Bl.bv;refine rr ?_;have h:=z3.2;cases t with
 | false=>rw[if_neg (by decide)]at h |-;exact bO h▸⟨_,_,rfl,rfl,rfl,il.drop.drop⟩
 | true=>rw[if_pos rfl]at h |-;rw[<- ah]at il;refine test_last<|im h (λu e=>Hc O _ gJ aP u e il) λr3 i4 v3 vx h rW As=>?_;refine aR (cE h) λd3 z4=>aR (xM z4.2) λb hq=>aR As.sat λZ y=>?_;have i2:In (tA r3 v3++(tA r' v'++tA r v++T)) O r' v':=In.tl ⟨lY,λj0_ hp=>aC _<|aC _ hp⟩;refine hq.2▸fO (oZ hq.1 (i2.dat y<|iT z2.1) ((In.hd rW).dat y<|iT z4.1) X.cl) λu s' o=>?_;have P7:=(As.post y o).drop.drop.drop;obtain rfl:=o.bv;exact rr ⟨_,_,rfl,rfl,rfl,P7⟩
end
noncomputable def MM(X:Cx) :Sy->Prop
 | .e e x=>SE X (eval e X.env) (ev X.c x)/\ST X (isTrue e X.env<|eval e X.env) (ev X.c x)
 | .s es S=>F2 (λe x=>CE X.U e x/\SE X (eval e X.env) (ev X.c x)/\ST X (isTrue e X.env<|eval e X.env) (ev X.c x)) es S
 | .o o x=>SE X (evalPart o X.env)<|ev X.c x
 | .i e it src=>SI X (eval e X.env) it<|evs X.c src
theorem F2.imp{P Q:Expr->Ex->Prop}(h:∀e x,P e x->Q e x)(F:F2 P es S) :F2 Q es S:=F2.rec' (M:=F2 Q) trivial (λp j0_ q=>⟨h _ _ p,q⟩) F
section
variable {X:Cx}{es:Sn}{S:List Ex}
theorem MM.two(h:MM X (.s es S)) :F2 (λe x=>CE X.U e x/\SE X (eval e X.env) (ev X.c x)) es S:=F2.imp (λj0_ j1_ h=>⟨h.1,h.2.1⟩) h
theorem MM.se(h:MM X (.s es S)) :F2 (λe x=>SE X (eval e X.env)<|ev X.c x) es S:=F2.imp (λj0_ j1_ h=>h.2.1) h
theorem MM.st(h:MM X (.s es S)) :F2 (λe x=>ST X (isTrue e X.env<|eval e X.env)<|ev X.c x) es S:=F2.imp (λj0_ j1_ h=>h.2.2) h
theorem NA{e:Expr}{b:Bi}(h:BX X.U e b es)(F:F2 (λe x=>CE X.U e x/\SE X (eval e X.env) (ev X.c x)) es S) :SE X (eval e X.env) (ev X.c<|.bi b S):=by cases h with
 | @dzip p p' pos pos' a b g1 g2=>
  rcases S with _ | ⟨x,_ | ⟨z,_ | _⟩⟩
  .exact F.elim
  .exact F.2.elim
  .exact Fq (e:=.Name "" pos') g1 g2 F.1.1 F.2.1.1 F.1.2 F.2.1.2
  .exact F.2.2.elim
 | dict0=>
  rcases S with _ | ⟨x,_⟩
  .exact A4
  .exact F.elim
theorem fU{e:Expr}{x:Ex}(H:SE X (eval e X.env) (ev X.c x))(he:isTrue e X.env (eval e X.env)=(do let v <- eval e X.env;standAt e.pos;holding [v] (truthy v))) :MM X (.e e x):=⟨H,.of H he⟩
theorem cm{q:Sy}(h:CQ U q) :∀X:Cx,X.U=U->MM X q:=by induction h with
 | lit a=>rintro X rfl;exact fU (oS a) rfl
 | var a=>rintro X rfl;exact fU (t9<|.nm a) rfl
 | pl a=>rintro X rfl;exact fU (A1<|.nm a) rfl
 | gl a b=>rintro X rfl;exact fU (Nz a b) rfl
 | tup a b ih=>rintro X rfl;exact fU (A0 (ih X rfl).two b) rfl
 | list a b ih=>rintro X rfl;exact fU (Fl (ih X rfl).two b) rfl
 | op2 _ _ i1 i2=>rintro X rfl;exact fU (Kf (i1 X rfl).1 (i2 X rfl).1) rfl
 | neg _ i1=>rintro X rfl;exact fU (Kh (i1 X rfl).1) rfl
 | not _ i1=>rintro X rfl;exact⟨Kg (i1 X rfl).1,JQ (i1 X rfl).2⟩
 | cmp h1 h2 i1 i2=>rintro X rfl;exact⟨Km (i1 X rfl).1 (i2 X rfl).1<|CE.noSet h2 _,JR (i1 X rfl).1 (i2 X rfl).1<|CE.noSet h2 _⟩
 | cmp2 h1 h2 h3 i1 i2 i3=>rintro X rfl;exact⟨Fu (i1 X rfl).1 (i2 X rfl).1 (i3 X rfl).1<|CE.noSet h3 _,EZ (i1 X rfl).1 (i2 X rfl).1 (i3 X rfl).1<|CE.noSet h3 _⟩
 | bo a ih=>rintro X rfl;exact⟨NB (ih X rfl).se,Nx (ih X rfl).st⟩
 | idx h1 h2 i1 i2=>rintro X rfl;exact fU (Kk (i1 X rfl).1 (i2 X rfl).1<|CE.isPlain h2) rfl
 | slc h1 h2 h3 i1 i2 i3=>rintro X rfl;exact fU (Kd (i1 X rfl).1 (i2 X rfl)<|i3 X rfl) rfl
 | call h1 h2 h3 h4 ih=>rintro X rfl;exact fU (Fv h1 h2 (ih X rfl).two) rfl
 | callw h1 h2 h3 h4 h5 i1 i2=>rintro X rfl;exact fU (A5 h1 h2 (i1 X rfl).two h4 (i2 X rfl).1 h5) rfl
 | bi1 h1 h2 h3 i1=>rintro X rfl;exact fU (Kn h1 h2 h3 (i1 X rfl).1) rfl
 | isi h1 h2 h3 i1=>rintro X rfl;exact fU (Kj h1 h2 h3 (i1 X rfl).1) rfl
 | comp h0 hz h1 h2 h3 h4 h5 i1 i2 i3=>rintro X rfl;exact fU (Ft h0 hz h2 h3 (i1 X rfl) (IT.noFold h1 X.env) (λX' e=>(i2 X' e).1) λX' e=>(i3 X' e).st) rfl
 | disp h1 h2 h3 h4 h5 ih=>rintro X rfl;exact fU (Fs h1 (ih X rfl).two h3 h4 h5) rfl
 | bx h1 h2 ih=>rintro X rfl;exact fU (NA h1 (ih X rfl).two) (by cases h1 <;> rfl)
 | isx h1 h2 h3 h4=>rintro X rfl;exact fU (Ki h1 h2 h3 h4) rfl
 | isxt h1 h2 h3 h4 h5=>rintro X rfl;exact fU (Fp h1 h2 h3 h4 h5) rfl
 | avar h=>rintro X rfl;exact fU (t9<|.atr h) rfl
 | apl h=>rintro X rfl;exact fU (A1<|.atr h) rfl
 | mcall h1 h2 h3 h4 h5 ih=>rintro X rfl;exact fU (A3 h1 h2 h3 (ih X rfl).two h5) rfl
 | pop h1 h2=>rintro X rfl;exact fU (Ke h1 h2) rfl
 | cnt h1 h2=>rintro X rfl;exact fU (Kl h1 h2) rfl
 | tin h1 h2=>rintro X rfl;exact⟨Kc h1 h2,JP h1 h2⟩
 | tget h1 h2=>rintro X rfl;exact fU (Fk h1 h2) rfl
 | nil=>rintro X rfl;trivial
 | cons h1 h2 i1 i2=>rintro X rfl;exact⟨⟨h1,i1 X rfl⟩,i2 X rfl⟩
 | onone=>rintro X rfl;exact λO T s Y out h y=>wpAny_evalPart_none<|bO h▸y.z (tk:=s.toks) λj0_=>.none
 | osome h1 i1=>rintro X rfl;exact λO T s Y out h y=>wpAny_evalPart_some<|(i1 X rfl).1 O T s Y out h y
 | seq h1 i1=>rintro X rfl;exact J7 (i1 X rfl).1
 | range h0 h1 i1=>rintro X rfl;exact AV h0 h1 (i1 X rfl).1
 | rev h0 h1 i1=>rintro X rfl;exact J8 h0 h1 (i1 X rfl).1
 | zip h0 h1 h2 i1 i2=>rintro X rfl;exact J6 h0 ⟨⟨h1,(i1 X rfl).1⟩,⟨h2,(i2 X rfl).1⟩,trivial⟩
 | enum h0 h1 i1=>rintro X rfl;exact Fh h0 h1 (i1 X rfl).1
end
end Mv
end
section
namespace Mv
open PySem PyProof.Rows
class inductive ID(U:Sc) :Sn->Sg->Prop
 | nil:ID U [] []
 | cons {x:Str} {p:Pos} {i:Nat} {es:Sn} {is:Sg} :U.isV x i->ID U es is->ID U (.Name x p::es) (i::is)
inductive TG(U:Sc) :Expr->ja->Prop
 | one {x:Str} {p:Pos} {i:Nat} :U.isV x i->TG U (.Name x p) (.one i)
 | tup {es:Sn} {is:Sg} {k:Nat} {p:Pos} :ID U es is->TG U (.Tuple es k p) (.tup is)
inductive Sw where
 | st (s:Stmt) (z:St)
 | ss (ss:List Stmt) (zs:List St)
class inductive CT:Sc->Sw->Prop
 | asg {U:Sc} {x:Str} {p pos:Pos} {value:Expr} {i:Nat} {e:Ex} :U.isV x i->CE U value e->CT U (.st (.Assign [.Name x p] value pos)<|.asg (.one i) e)
 | asgA {U:Sc} {x a:Str} {p p' pos:Pos} {value:Expr} {i:Nat} {e:Ex} :U.isA x a i->CE U value e->iI value=true->CT U (.st (.Assign [.Attribute (.Name x p) a p'] value pos)<|.asg (.one i) e)
 | setI {U:Sc} {o:Expr} {p' pos:Pos} {value idx:Expr} {i:Nat} {e k:Ex} :PE U o i->CE U value e->CE U idx k->CT U (.st (.Assign [.Subscript o idx p'] value pos)<|.setI (.var i) k e)
 | app {U:Sc} {o:Expr} {apos pos pos':Pos} {e:Expr} {i:Nat} {z:Ex} :PE U o i->CE U e z->(apos.endLine == pos.line) = true->CT U (.st (.Expr (.Call (.Attribute o "append" apos) [e] [] pos) pos') (.app (.var i) z))
 | tab0 {U:Sc} {x a:Str} {p p' dp pos:Pos} {i:Nat} :U.isA x a i->CT U (.st (.Assign [.Attribute (.Name x p) a p'] (.Dict [] [] dp) pos)<|.tab0 i)
 | tset {U:Sc} {x a z:Str} {p ap pz p' pos:Pos} {value:Expr} {i j:Nat} {e:Ex} :U.isA x a i->U.isV z j->CE U value e->CT U (.st (.Assign [.Subscript (.Attribute (.Name x p) a ap) (.Name z pz) p'] value pos)<|.tset i (.var j) e)
 | exp {U:Sc} {e:Expr} {pos:Pos} {z:Ex} :CE U e z->iI e=true->CT U (.st (.Expr e pos)<|.exp z)
 | rev {U:Sc} {o:Expr} {apos pos pos':Pos} {i:Nat} :PE U o i->(apos.endLine == pos.line) = true->CT U (.st (.Expr (.Call (.Attribute o "reverse" apos) [] [] pos) pos') (.rev (.var i)))
 | mst {U:Sc} {f:Nat} {d:DefRec} {x:Str} {p ap pos pos':Pos} {args:Sn} {S:List Ex} :tb.fn[f]? = some d/\tb.m0<=f/\kf f = U.k->x = U.sn/\(x == ("__debug__" :Str)) = false/\U.ats≠ []->(ap.endLine == pos.line) = true->Em U args S->args.length<=28->CT U (.st (.Expr (.Call (.Attribute (.Name x p) d.name ap) args [] pos) pos') (.mst f U.as (vI (tG f) U.as) S))
 | iff {U:Sc} {t:Expr} {a b:List Stmt} {pos:Pos} {z:Ex} {xa xb:List St} :CE U t z->CT U (.ss a xa)->CT U (.ss b xb)->CT U (.st (.If t a b pos)<|.iff z xa xb)
 | ret {U:Sc} {e:Expr} {pos:Pos} {z:Ex} :CE U e z->CT U (.st (.Return (some e) pos)<|.ret z)
 | retI {U:Sc} {t a b:Expr} {p pos:Pos} {z x y:Ex} :CE U t z->CE U a x->CE U b y->CT U (.st (.Return (some<|.IfExp t a b p) pos)<|.iff z [.ret x] [.ret y])
 | for1 {U:Sc} {g:Expr} {pos:Pos} {iter:Expr} {body:List Stmt} {t:ja} {it:kZ} {src:List Ex} {xb:List St} {SO:Sg} :TG U g t->(it.pairs=true->t.isTup=true)->IT U iter it src->CT U (.ss body xb)->CT U (.st (.For g iter body [] pos)<|.for_ t it src xb SO)
 | whl {U:Sc} {t:Expr} {body:List Stmt} {pos:Pos} {z:Ex} {xb:List St} {SO:Sg} :CE U t z->CT U (.ss body xb)->CT U (.st (.While t body [] pos)<|.whl z xb SO)
 | raise {U:Sc} {k msg:Str} {np cpos pos ap:Pos} {kk:Nat} :U.isG k->k∈tb.cl->CT U (.st (.Raise (some<|.Call (.Name k np) [.Constant (.str msg) kk ap] [] cpos) none pos)<|.raise k)
 | tryx {U:Sc} {pos:Pos} {body:List Stmt} {G:List ExceptHandler} {xb:List St} {S:List (Str×Sd×D)} :CT U (.ss body xb)->HS U G S->G≠ []->CT U (.st (.Try body G [] [] pos)<|.tryx xb S)
 | tryw {U:Sc} {x cn:Str} {d:DefRec} {p hp pos p1 p2 p3 p4 pt rp:Pos} {kk kt f i:Nat} {body:List Stmt} {xb:List St} :U.isV x i->U.names.lookup x=some .local->U.isG cn->cn∈tb.hc/\(tb.hb cn).all tb.cl.contains=true->tb.fn[f]? = some d/\f<tb.m0->U.isG d.name->CT U (.ss body xb)->
   CT U (.st (.Try body [.ExceptHandler (some<|.Name cn p) (some x) [.Return (some<|.Tuple [.Constant (.bool false) kk p1,.Call (.Name d.name p2) [.Name x p3] [] p4] kt pt) rp] hp] [] [] pos)<|.tryw xb (tb.hb cn) i f)
 | asgT {U:Sc} {es:Sn} {is:Sg} {k:Nat} {p pos:Pos} {value:Expr} {e:Ex} :ID U es is->CE U value e->iI value=true->xP value=true->CT U (.st (.Assign [.Tuple es k p] value pos)<|.asg (.tup is) e)
 | no {U:Sc} {s:Stmt} :CT U (.st s .no)
 | nil {U:Sc} :CT U (.ss [] [])
 | cons {U:Sc} {s:Stmt} {ss:List Stmt} {z:St} {zs:List St} :CT U (.st s z)->CT U (.ss ss zs)->CT U (.ss (s::ss) (z::zs))
 | new {U:Sc} {c:ClsRec} {x:Str} {p np cpos pos:Pos} {args:Sn} {S:List Ex} {rest:List Stmt} {body:List St} {k:Nat} :tb.cr k = some c/\k < 2->U.isG c.name->U.ats = []/\U.names.lookup x = some .local/\U.vars.lookup x = none/\(x == ("__debug__" :Str)) = false->Em U args S->args≠ []/\(∃d,tb.fn[mi k]? = some d/\d.name = "__init__")->
   CT (k9 U k x) (.ss rest body)->CT U (.ss (.Assign [.Name x p] (.Call (.Name c.name np) args [] cpos) pos::rest) [.new (mi k) (c9 U) S body])
noncomputable abbrev CS(U:Sc)(s:Stmt)(z:St) :Prop:=CT U<|.st s z
noncomputable abbrev An(U:Sc)(ss:List Stmt)(zs:List St) :Prop:=CT U<|.ss ss zs
variable [Hp]
section
variable {X:Cx}{g:Expr}{t:ja}{it:kZ}
theorem ID.tn(ok:Fo X){is:Sg}(h:ID X.U es is) :IB X es is:=by induction h with
 | nil=>exact .nil
 | cons a _ ih=>exact .cons a.1 (ok.nf _ _ a.1) ih
theorem TG.tn(ok:Fo X)(h:TG X.U g t) :TN X g t:=by cases h with
 | one a=>exact .one a.1<|ok.nf _ _ a.1
 | tup a=>exact .tup<|a.tn ok
theorem TG.gok(h:TG U g t)(hz:it.pairs=true->t.isTup=true) :MV it g:=λq=>by cases h with
 | one=>cases hz q
 | tup=>exact⟨_,_,_,rfl⟩
theorem E8{x:Str}{p pos:Pos}{z:Ex}(ok:Fo X)(hx:X.U.isV x i)(ce:CE X.U value z) :SS X (exec (.Assign [.Name x p] value pos) X.env) (jF X.c<|.asg (.one i) z):=by
 have H:=(cm ce X rfl).1;by_cases hc:iI value=true
 .exact AP ok hx H (iy ce hc)
 cases ce.ci with
 | lit | nm=>exact absurd rfl hc
 | other h _ _=>exact absurd h hc
 | @comp elt iter g O t cpos gQ scope j it src conds z h0 hz h1 h2 h3 h4 h5=>
  have hsw:swapsWith (.ListComp elt [⟨g,iter,gQ,0⟩] scope cpos) (some<|.Name x p) pos.line X.env=pure (X.env.blockKind == .function&&X.env.kindOf x==some .local&&p.line==cpos.line
   && !(scope.names.any λ(n,k)=>n==x&&(k == .local||k == .cell))):=rfl
  generalize hb:(X.env.blockKind == .function&&X.env.kindOf x==some .local&&p.line==cpos.line && !(scope.names.any λ(n,k)=>n==x&&(k == .local||k == .cell)))=b at hsw;cases b with
  | false=>exact AP ok hx H hsw
  | true=>
   intro O T s Y out h y;rw[exec_Assign_Name_used _ _ _ _ hsw];refine ae<|wpAny_standAt<|ae<|ae ?_;have sx:=λ(X':Cx) e=>(cm h4 X' e).1;have U:=λ(X':Cx) e=>MM.st<|cm h5 X' e;rcases dD (pZ h).2 with⟨e,f,hm,rfl⟩ | ⟨r,f,hm,h⟩
   .exact pB (use:=some<|assign (.Name x p) X.env) h0 hz h2 h3 (cm h1 X rfl) (IT.noFold h1 X.env) sx U hm y (λj0_ s' p=>.of<|PX.to (P:=[]) p) λDa C V fr' s' ho j0_=>nomatch ho
   .refine pB (use:=some<|assign (.Name x p) X.env) h0 hz h2 h3 (cm h1 X rfl) (IT.noFold h1 X.env) sx U hm y (λe s' p=>p.no) λDa C V fr' s' ho y=>?_;cases ho;refine aR (cE h) λi4 z3=>?_;have y:=y.perm<|bp 3 [1,0,2] (by decide) [[_],[_],T] rfl;refine wpAny_assign_Name<|oy (r:=.own<|.list V) y hx.1 (ok.nf x i hx.1) z3.1 λs'' y=>?_;refine aR y.dns λm hm=>⟨m,hm,λh' G=>au<|au ?_⟩
    exact bO z3.2▸ .next _ rfl rfl (.upd<|kb z3.1 i aa) (y.gone (tk:=s''.toks) λb o q e=>G.extBut b o q e)
noncomputable def SQ(X:Cx) :Sw->Prop
 | .st s z=>SS X (exec s X.env)<|jF X.c z
 | .ss ss zs=>SS X (execs ss X.env)<|exSs X.c zs
theorem Cx.ini(X:Cx){x a:Str}(hx:X.U.isA x a i) :∃px o dx,X.J=some (px,o,dx):=by
 have n:=(X.ins hx.ne).1;rcases hJ:X.J with _ | ⟨px,o,dx⟩
 .exact absurd hJ n
 .exact⟨px,o,dx,rfl⟩
theorem AQ{q:Sw}(h:CT U q) :∀X:Cx,X.U=U->Fo X->SQ X q:=by induction h with
 | asg a ce=>rintro X rfl ok;exact E8 ok a ce
 | asgA a ce hc=>rintro X rfl ok;exact m5 (X.ini a) λpx o dx hJ=>E9 hJ a (cm ce X rfl).1<|iy ce hc
 | setI a ce ck=>rintro X rfl ok;exact E4 a (cm ce X rfl).1 (cm ck X rfl).1<|qE ce
 | app a ce hp=>rintro X rfl ok;exact J1 ok a ce (cm ce X rfl).1 hp
 | tab0 a=>rintro X rfl ok;exact m5 (X.ini a) λpx o dx hJ=>E3 hJ a
 | tset a b ce=>rintro X rfl ok;exact E0 a b (cm ce X rfl).1<|qE ce
 | exp ce hc=>rintro X rfl ok;exact J0 ok (cm ce X rfl).1<|iy ce hc
 | rev a hp=>rintro X rfl ok;exact JT ok a hp
 | mst hf hx hl ces hn=>rintro X rfl ok;exact JX ok hf hx hl (MM.two<|cm ces X rfl) hn
 | iff ce _ _ ia ib=>rintro X rfl ok;exact JY (cm ce X rfl).2 (ia X rfl ok)<|ib X rfl ok
 | ret ce=>rintro X rfl ok;exact JU (cm ce X rfl).1
 | retI ce ca cb=>rintro X rfl ok;exact E5 (cm ce X rfl).2 (cm ca X rfl).1 (cm cb X rfl).1
 | for1 tg hz hit _ ib=>rintro X rfl ok;exact JZ (tg.tn ok) (tg.gok hz) (cm hit X rfl) (IT.noFold hit X.env)<|ib X rfl ok
 | whl ce _ ib=>rintro X rfl ok;exact JS (cm ce X rfl).2<|ib X rfl ok
 | raise hg hk=>rintro X rfl ok;exact AO hg hk
 | tryx _ H hne ib=>rintro X rfl ok;exact E1 H hne<|ib X rfl ok
 | tryw h1 h2 h3 h4 h5 h6 _ ib=>rintro X rfl ok;exact E2 ok h1 h2 h3 h4 h5 h6<|ib X rfl ok
 | asgT tg ce h1 h2=>rintro X rfl ok;exact E7 (tg.tn ok) (cm ce X rfl).1 (iy ce h1)<|vy ce h2
 | no=>rintro X rfl ok;exact λO T s Y out h=>bz h
 | nil=>rintro X rfl ok;exact JV
 | cons _ _ i1 i2=>rintro X rfl ok;exact E6 (i1 X rfl ok)<|i2 X rfl ok
 | new hcr hg hx ces hne _ ib=>rintro X rfl ok;exact JW ok hcr hg hx (MM.two<|cm ces X rfl) hne λX' e ok'=>ib X' e ok'
end
end Mv
end
section
namespace Mv
open PySem PyProof.Rows
theorem Ea:tb.an.length≠0:=λq=>D9<|List.length_eq_zero_iff.mp q
noncomputable def c5(fn:Fn)(sn:Str) :Sd:=if fn.na=0 then [] else [sn]
def ua(kk:Nat)(d:DefRec)(fn:Fn)(names:Sd)(sn:Str) :Sc:= {names:=d.scope.names,vars:=names.zipIdx fn.na,hi:=fn.na+(names++c5 fn sn).length,sn:=sn,ats:=tb.an.zip<|List.range fn.na,k:=kk}
structure IK(f:Nat)(d:DefRec)(fn:Fn)(names:Sd)(sn:Str) :Prop where
 nd:(names++c5 fn sn).Nodup
 np:fn.np<=fn.na+names.length
 pn:fn.na<=fn.np
 na:fn.na=if f<tb.m0 then 0 else tb.an.length
 rb:fn.rb=tG f
 kinds:∀x∈names,d.scope.names.lookup x=some .local\/d.scope.names.lookup x=some .cell
 skind:∀x∈c5 fn sn,d.scope.names.lookup x=some .local
 bind:∀(J:lR)(O:Si),F6 J=fn.na->fn.na+O.length=fn.np-> ∀qual pm code doc,bindArgs (methDef d.name qual d.params d.body d.scope pm code doc) ⟨nG J++O,[]⟩=pure ((c5 fn sn++names.take (fn.np - fn.na)).zip<|nG J++O)
 body:An (ua (kf f) d fn names sn) d.body fn.body
 co:d.scope.isCoroutine=false
 gen:d.scope.isGenerator=false
 kind:d.scope.kind = .function
 nofree:∀x∈d.scope.names,x.2≠ .free
variable [Hp]
theorem w8{k:Str->Option NameKind} :∀(bs:Sq)(m:Str->So)(x:Str),x∉bs.map (·.1)->bindL k bs m x=m x:=by intro r m x h;induction r generalizing m x with
 | nil=>exact rfl
 | cons p0 r ih=>
  simp only[ay,am,not_or]at h;unfold bindL;refine Er (ih _ x h.2) ?_;split
  .exact if_neg h.1
  .rfl
theorem nh{k:Str->Option NameKind} :∀(bs:Sq)(m:Str->So)(i:Nat)(x:Str)(v:Value),(bs.map (·.1)).Nodup->bs[i]? = some (x,v)->k x=some .local->bindL k bs m x=some v
 | [],_,_,_,_,_,h,_=>by simp at h
 | (n,u)::r,m,0,x,v,hn,h,hk=>by simp at h;obtain⟨rfl,rfl⟩:=h;unfold bindL;refine Er (w8 r _ n (bh.mp hn).1)<|Er (if_pos hk) ?_;simp
 | (n,u)::r,m,i+1,x,v,hn,h,hk=>by unfold bindL;exact nh r _ i x v (bh.mp hn).2 h hk
theorem w9{k:Str->Option NameKind} :∀(bs:Sq)(m:Str->So)(x:Str),x∉bs.map (·.1)->bindC k bs m x=m x:=by intro r m x h;induction r generalizing m x with
 | nil=>exact rfl
 | cons p0 r ih=>
  simp only[ay,am,not_or]at h;unfold bindC;refine Er (ih _ x h.2) ?_;split
  .rfl
  .exact if_neg h.1
theorem rn{k:Str->Option NameKind} :∀(bs:Sq)(m:Str->So)(i:Nat)(x:Str)(v:Value),(bs.map (·.1)).Nodup->bs[i]? = some (x,v)->k x≠some .local->bindC k bs m x=some v
 | [],_,_,_,_,_,h,_=>by simp at h
 | (n,u)::r,m,0,x,v,hn,h,hk=>by simp at h;obtain⟨rfl,rfl⟩:=h;unfold bindC;refine Er (w9 r _ n (bh.mp hn).1)<|Er (if_neg hk) ?_;simp
 | (n,u)::r,m,i+1,x,v,hn,h,hk=>by unfold bindC;exact rn r _ i x v (bh.mp hn).2 h hk
theorem qv:∀(names:List (Str×NameKind))(n:Nat)(SK:List (Str×Addr))(p:Str×Addr),p∈SK->p∈cellsFrom n names SK:=by intro r n SK p h;induction r generalizing n SK p h with
 | nil=>exact h
 | cons p0 r ih=>
  unfold cellsFrom;split
  .exact ih _ _ p (ac _ h)
  .exact ih _ _ p h
theorem qu:∀names n SK x,(x,NameKind.cell)∈names-> ∃c,(x,c)∈cellsFrom n names SK:=by intro r n SK x h;induction r generalizing n SK x with
 | nil=>cases h
 | cons p0 r ih=>
  obtain⟨nm,k⟩:=p0;unfold cellsFrom;rcases am.mp h with q | h
  .cases q;exact Er (if_pos (by decide))<|⟨n,qv r _ _ _ aa⟩
  .split
   .exact ih _ _ x h
   .exact ih _ _ x h
theorem iG:∀{names:Sd}{x:Str}{i k:Nat},(names.zipIdx k).lookup x=some i->k<=i/\names[i - k]? = some x:=by intro l x i k h;induction l generalizing x i k with
 | nil=>exact bz h
 | cons a l ih=>rw[iu,aU]at h;cases hx:x==a with
  | true=>rw[hx]at h;refine Er (bO h) ?_;simp only[cZ]at hx;subst hx;exact⟨aQ _,by simp⟩
  | false=>
   have q:=ih<|hx▸h;refine⟨by exact(Ln [k,i] (.w .x .y) [Gl (.p 1 .x) .y] rfl q.1),?_⟩;obtain⟨m,rfl⟩ :∃m,i=k+1+m:=⟨i - (k+1),by exact(Le [i,k,i - (k+(1:Nat))] (.e .x<|.a (.p 1 .y) .z) [Gq (.a .z<|.p 1 .y) .x] rfl<|fi (n:=i) (m:=k+(1:Nat)) q.1)⟩
   refine Er (show k+1+m - k=m+1 from by exact(Le [k+(1:Nat)+m - k,m,k] (.e .x<|.p 1 .y) [Gp (.a .x .z)<|.a (.p 1 .z) .y] rfl<|fi (n:=k+(1:Nat)+m) (m:=k)<|Ln [k,m] (.w .x<|.a (.p 1 .x) .y) [Gl (.p 1 .x)<|.a (.p 1 .x) .y] rfl q.1))<|Er (List.getElem?_cons_succ) ?_;exact((show k+1+m - (k+1)=m from by exact(Le [k+(1:Nat)+m - (k+(1:Nat)),m,k] (.e .x .y) [Gp (.a .x<|.p 1 .z)<|.a (.p 1 .z) .y] rfl<|fi (n:=k+(1:Nat)+m) (m:=k+(1:Nat)) q.1))▸q.2)
noncomputable def nK(kindOf:Str->Option NameKind)(L:Addr)(cells:List (Str×Addr))(names:Sd)(i:Nat) :Option Loc:=match names[i]? with
 | none=>none
 | some x=>if kindOf x=some .local then some (.dict L x) else(cells.lookup x).map .cell
set_option tactic.hygienic true in
theorem ww{k:Str->Option NameKind}{cells:List (Str×Addr)}{l:Loc}(h:nK k L cells names i=some l) :
  ∃x,names[i]? = some x/\((k x=some .local/\l = .dict L x)\/(k x≠some .local/\ ∃c,cells.lookup x=some c/\l = .cell c)):=by
 unfold nK at h;split at h
 .exact bz h
 .rename_i x hx;refine⟨x,hx,?_⟩;split at h
  .rename_i hk;exact Er (bO h)<|.inl ⟨hk,rfl⟩
  .rename_i hk;rw[aT]at h;obtain⟨c,h⟩:=h;refine Er h.2.symm ?_;have hc:=h.1;exact .inr ⟨hk,c,hc,rfl⟩
theorem vo{l:Sd}{x:Str}{k:Nat}(h:x∈l) :(l.zipIdx k).lookup x≠none:=by induction l generalizing k with
 | nil=>cases h
 | cons a l ih=>refine Er iu<|Er aU ?_;cases e:x==a with
  | true=>exact λq=>bz q.symm
  | false=>
   rcases am.mp h with q | q
   .rw[q]at e;simp at e
   .exact ih q
noncomputable def xD:Se dU->Se Rv
 | .error e=>.error e
 | .ok .next=>.ok<|.fz .none
 | .ok (.ret r)=>.ok r
inductive El(P:Pr)(n:Nat)(f:Nat)(args:List Slot)(res:Se Rv)(outs:List Slot) :Prop
 | mk (fn:Fn) (Y:Fm) (o:Se dU) :P.fns[f]? = some fn->args.length=fn.np->exSs ⟨P.glob,cF P n,fQ fn.na fn.rb args,false,bT P⟩ fn.body (args++List.replicate (fn.nv - fn.np) .no)=some (o,Y)->xD o=res->jP fn.na args Y=outs->El P n f args res outs
theorem DS{P:Pr}(h:cF P (n+1) f args=some (res,outs)) :El P n f args res outs:=by
 have h:(match P.fns[f]? with
  | none=>none
  | some fn=>if args.length=fn.np then CV fn.na args (exSs ⟨P.glob,cF P n,fQ fn.na fn.rb args,false,bT P⟩ fn.body<|args++List.replicate (fn.nv - fn.np) .no) else none)=some (res,outs):=h
 cases hf:P.fns[f]? with
 | none=>have h:=hf▸h;exact bz h
 | some fn=>
  rw[hf]at h;have h:(if args.length=fn.np then CV fn.na args (exSs ⟨P.glob,cF P n,fQ fn.na fn.rb args,false,bT P⟩ fn.body<|args++List.replicate (fn.nv - fn.np) .no) else none)=some (res,outs):=h;by_cases q:args.length=fn.np
  .rw[if_pos q]at h;cases e:exSs ⟨P.glob,cF P n,fQ fn.na fn.rb args,false,bT P⟩ fn.body (args++List.replicate (fn.nv - fn.np) .no) with
   | none=>rw[e]at h;exact bz h
   | some p=>
    rw[e]at h;obtain⟨o,Y⟩:=p;rcases o with x | (_ | r)
    .have h:=ie<|bO h;exact⟨fn,Y,_,hf,q,e,h.1,h.2⟩
    .have h:=ie<|bO h;exact⟨fn,Y,_,hf,q,e,h.1,h.2⟩
    .have h:=ie<|bO h;exact⟨fn,Y,_,hf,q,e,h.1,h.2⟩
  .rw[if_neg q]at h;exact bz h
section
variable {J:lR}{f:Nat}{fn:Fn}{d:DefRec}{names:Sd}{sn:Str}{O:Si}
theorem BJ(ok:IK f d fn names sn)(hJ:J=none↔f<tb.m0) :F6 J=fn.na:=by
 refine Er ok.na ?_;rcases J with _ | j
 .exact(if_pos<|hJ.mp rfl).symm
 .exact(if_neg λq=>bz (hJ.mpr q).symm).symm
theorem t8(hna:F6 J=fn.na) :(c5 fn sn).length=(nG J).length:=by
 unfold c5;rcases J with _ | j
 .refine Er (if_pos (show fn.na=0 from hna.symm)) ?_;rfl
 .refine Er (if_neg (show ¬fn.na=0 from λq=>Ea<|hna.trans q)) ?_;rfl
abbrev w7(J:lR)(fn:Fn)(names:Sd)(sn:Str)(O:Si) :Sq:=(c5 fn sn++names.take (fn.np - fn.na)).zip<|nG J++O
theorem tT(ok:IK f d fn names sn)(hvl:fn.na+O.length=fn.np) :(names.take<|fn.np - fn.na).length=O.length:=by have hnp:=ok.np;rw[<- hvl]at hnp |-;rw[b3];exact Er eY<|Nat.min_eq_left<|Nat.le_of_add_le_add_left hnp
theorem rj(ok:IK f d fn names sn)(hna:F6 J=fn.na)(hvl:fn.na+O.length=fn.np) :(w7 J fn names sn O).map (·.1)=c5 fn sn++names.take (fn.np - fn.na):=
 List.map_fst_zip (by refine Er aj<|Er aj<|Er (t8 hna)<|Er (tT ok hvl) ?_;exact aQ _)
theorem rc{x:Str}(q:d.scope.names.lookup x=some .cell) :∃c,(cellsFrom n d.scope.names []).lookup x=some c:=
 aR (qu d.scope.names n [] x<|mem_of_lookup q) λc hc=>aR (lc hc) λc' Q=>(⟨c',Q.1⟩)
theorem rm(ok:IK f d fn names sn)(hna:F6 J=fn.na)(hvl:fn.na+O.length=fn.np)(x:Str×Value)(hx:x∈w7 J fn names sn O) :d.scope.names.lookup x.1=some .local\/(d.scope.names.lookup x.1=some .cell/\((cellsFrom n d.scope.names []).lookup x.1).isSome=true):=by
 have hxn:x.1∈c5 fn sn++names.take (fn.np - fn.na):=by exact Er (rj ok hna hvl).symm<|aH.mpr ⟨x,hx,rfl⟩
 rcases cS.mp hxn with hxn | hxn
 .exact .inl (ok.skind _ hxn)
 rcases ok.kinds x.1 (List.mem_of_mem_take hxn) with q | q
 .exact .inl q
 .exact .inr ⟨q,i9.mpr<|rc q⟩
end
section
variable {O:bV}{Z:Ss}{s:Shared}{W:List At}
theorem Mz:∀{a:Fm}{b:Fm}{k:Nat},Sk O k (a++b)=Sk O k a++Sk O (k+a.length) b:=by intro a;induction a with
 | nil=>exact rfl
 | cons x a ih=>intro b k;refine congrArg (vA (O k) x :: ·)<|ih.trans ?_;rw[d4];rfl
theorem Mx:∀{l:List So}{args:Fm}{k:Nat},l.length=args.length->(∀j ov,l[j]? = some ov->O (k+j)=ov)->Sk O k args=jJ l args:=by intro l;induction l with
 | nil=>intro args k e h;cases args with | nil=>rfl | cons=>exact nomatch e
 | cons ov l ih=>intro args k e h;cases args with
  | nil=>exact nomatch e
  | cons a args=>show vA (O k) a::_=vA ov a::_;rw[show O k=ov from h 0 ov rfl,ih (be e) λj ov e=>by rw[d4];exact h (j+1) ov e]
theorem Pt(y:bD Z s W) :∀{m k:Nat},bD Z s (Sk O k (List.replicate m .no)++W):=by intro m;induction m with
 | zero=>exact y
 | succ m ih=>intro k;exact bD.nw (tk:=s.toks) ih (λj0_ j1_ e=>e) (λj0_ z=>z) (λj0_ z=>.inl z) trivial λj0_ h=>h.elim
end
theorem rZ:∀{ss:List Slot}{k i:Nat},i∈fA k ss->k<=i/\i<k+ss.length:=by intro ss;induction ss with
 | nil=>exact λh=>nomatch h
 | cons a ss ih=>
  intro k i h;have r:i∈fA (k+1) ss->k<=i/\i<k+(ss.length+1):=λh=>have q:=ih h;⟨kj q.1,by rw[<- dv,d4];exact q.2⟩
  rw[jN]at h;split at h
  .exact(am.mp h).elim (λe=>e▸⟨aQ _,Nat.lt_add_of_pos_right<|Nat.zero_lt_succ _⟩) r
  .exact r h
theorem FJ:∀{ss:List Slot}{k:Nat},(fA k ss).Nodup:=by intro ss;induction ss with
 | nil=>exact .nil
 | cons a ss ih=>
  intro k;rw[jN];split
  .exact bh.mpr ⟨λh=>fN _ (rZ h).1,ih⟩
  .exact ih
theorem yS:∀{ss:List Slot}{k:Nat}{Y:Fm},jz Y (fA k ss)=lE ss (Y.drop k):=by intro ss;induction ss with
 | nil=>exact rfl
 | cons a ss ih=>
  intro k Y;rw[jN,Bn,List.tail_drop];split
  .show((Y[k]?).getD .no)::jz Y (fA (k+1) ss)=_
   rw[ih];congr 1;rw[List.headD_eq_head?_getD,List.head?_drop]
  .exact ih
theorem yT{O:bV} :∀{ss:List Slot}{k:Nat}{ws:Si},ss.length=ws.length->(∀j v,ws[j]? = some v->k+j∈fA k ss->O (k+j)=some v)->(fA k ss).map O=gn ss ws:=by intro ss;induction ss with
 | nil=>exact λj0_ j1_=>rfl
 | cons a ss ih=>intro k ws l h;cases ws with
  | nil=>exact nomatch l
  | cons u ws=>
   have r:=ih (k:=k+1) (be l) λj v e m=>by have:=h (j+1) v e (by rw[jN,<- dv,d4];split;exact ac _ m;exact m);rw[<- dv,d4]at this;exact this
   show _=if a.lent=true then some u::gn ss ws else gn ss ws
   rw[jN]at h |-;by_cases q:a.lent=true
   .rw[if_pos q]at h |-;rw[if_pos q,ay,r];rw[show O k=some u from h 0 u rfl aa]
   .rw[if_neg q,if_neg q];exact r
end Mv
end
section
namespace Mv
open PySem PyProof.Rows
variable [Hp]
def nW(fn:Fn)(env:Env)(nms:Sd) :Lay:=λj=>if j<fn.na then none else nK env.kindOf env.locals env.cells nms (j - fn.na)
inductive IL(fn:Fn)(env:Env)(nms:Sd)(j:Nat) :Loc->Prop
 | loc {x:Str} (k:Nat) :j=fn.na+k->nms[k]? = some x->env.kindOf x=some .local->IL fn env nms j (.dict env.locals x)
 | cell {x:Str} {c:Addr} (k:Nat) :j=fn.na+k->nms[k]? = some x->env.cells.lookup x=some c->IL fn env nms j (.cell c)
section
variable {fn:Fn}{env:Env}{nms:Sd}{j k:Nat}{l:Loc}{x:Str}
theorem f7(h:nW fn env nms j=some l) :IL fn env nms j l:=by
 have h:(if j<fn.na then none else nK env.kindOf env.locals env.cells nms (j - fn.na))=some l:=h;by_cases q:j<fn.na
 .rw[if_pos q]at h;exact bz h
 .rw[if_neg q]at h;have e:=(cw<|bM.mp q).symm;obtain⟨x,hx,⟨hk,rfl⟩ | ⟨_,c,hc,rfl⟩⟩:=ww h
  .exact .loc _ e hx hk
  .exact .cell _ e hx hc
theorem wv(h:nms[k]? = some x)(hk:env.kindOf x=some .local) :nW fn env nms (fn.na+k)=some (.dict env.locals x):=by
 show(if fn.na+k<fn.na then _ else nK _ _ _ _ (fn.na+k - fn.na))=_
 rw[if_neg<|bM.mpr<|aq _ _,b3];unfold nK;rw[h];exact if_pos hk
theorem CR{c:Addr}(h:nms[k]? = some x)(hk:env.kindOf x=some .cell)(hc:env.cells.lookup x=some c) :nW fn env nms (fn.na+k)=some (.cell c):=by
 show(if fn.na+k<fn.na then _ else nK _ _ _ _ (fn.na+k - fn.na))=_
 rw[if_neg<|bM.mpr<|aq _ _,b3];unfold nK;rw[h];show(if env.kindOf x=some .local then _ else _)=_
 rw[if_neg (by rw[hk];exact λz=>nomatch z),hc];rfl
theorem Hf(h:j<fn.na) :nW fn env nms j=none:=if_pos h
end
structure CC(J:lR)(fn:Fn)(d:DefRec)(names:Sd)(sn:Str)(env:Env)(s aM:Shared)(ws:Si) :Prop where
 na:F6 J=fn.na
 nd:(names++c5 fn sn).Nodup
 kinds:∀x∈names,env.kindOf x=some .local\/env.kindOf x=some .cell
 skind:∀x∈c5 fn sn,env.kindOf x=some .local
 kd:∀x,env.kindOf x=d.scope.names.lookup x
 nw:∀b,env.locals<=b->s.heap.get? b=none
 kp:∀b o,s.heap.get? b=some o->aM.heap.get? b=some o
 same:∃h tk,aM={s with heap:=h,toks:=tk}
 ns:∃m,aM.heap.Ns env.locals m
 cl:∀x c,env.cells.lookup x=some c->env.locals<c/\ ∃v,aM.heap.IsCell c v
 ca:∀x z c,env.cells.lookup x=some c->env.cells.lookup z=some c->x=z
 cx:∀x,env.kindOf x=some .cell-> ∃c,env.cells.lookup x=some c
 ar:∀(k:Nat)(v:Value),ws[k]? = some v->k<names.length/\ ∃l,nW fn env (names++c5 fn sn) (fn.na+k)=some l/\FD aM.heap l v
 sr:∀x o dx,J=some (x,o,dx)->FD aM.heap (.dict env.locals sn) (.ref x)
section
variable {kk:Nat}{A:Around}{J:lR}{fn:Fn}{d:DefRec}{env:Env}{names:Sd}{sn:Str}{s aM s':Shared}{ws:Si}{K:List At}{c:gR}{n:Nat}
theorem oR(h:fn.na≠0) :c5 fn sn=[sn]:=if_neg h
theorem CC.jna(C:CC J fn d names sn env s aM ws)(h:J≠none) :fn.na=tb.an.length/\fn.na≠0:=by
 rcases J with _ | j
 .exact absurd rfl h
 .exact⟨C.na.symm,λq=>Ea<|C.na.trans q⟩
inductive MB(ls:Lay)(env:Env)(i:Nat)(x:Str) :Prop
 | loc:ls i=some (.dict env.locals x)->env.kindOf x=some .local->MB ls env i x
 | cell (c:Addr) :ls i=some (.cell c)->env.kindOf x=some .cell->env.cells.lookup x=some c->MB ls env i x
theorem CC.locS(C:CC J fn d names sn env s aM ws){k:Nat}{x:Str}(h:names[k]? = some x) :MB (nW fn env<|names++c5 fn sn) env (fn.na+k) x:=by
 have h':(names++c5 fn sn)[k]? = some x:=by rw[b9 (av.mp h).1];exact h
 rcases C.kinds x (aN h) with q | q
 .exact .loc (wv h' q) q
 .exact aR (C.cx x q) λc hc=>.cell c (CR h' q hc) q hc
theorem CC.self(C:CC J fn d names sn env s aM ws)(h:J≠none) :env.kindOf sn=some .local/\nW fn env (names++c5 fn sn) (fn.na+names.length)=some (.dict env.locals sn):=by
 have e:=oR (sn:=sn) (C.jna h).2;have h1:(names++c5 fn sn)[names.length]? = some sn:=by rw[cQ<|aQ _,Nat.sub_self,e];rfl
 have h2:=C.skind sn (by rw[e];exact .head _);exact⟨h2,wv h1 h2⟩
theorem CC.ats(C:CC J fn d names sn env s aM ws) :(ua kk d fn names sn).as=List.range fn.na:=by
 refine List.map_snd_zip ?_;rw[aO];rcases J with _ | j
 .exact C.na▸ba _
 .exact Nat.le_of_eq C.na.symm
theorem CC.no(C:CC J fn d names sn env s aM ws) :(ua kk d fn names sn).ats=[]↔J=none:=by
 rcases J with _ | j
 .refine⟨λj0_=>rfl,λj0_=>?_⟩;show tb.an.zip (List.range fn.na)=[]
  rw[show fn.na=0 from C.na.symm];exact pS
 .refine⟨λq=>?_,λq=>bz q.symm⟩;have h1:((ua kk d fn names sn).as).length=0:=by unfold Sc.as;rw[q];rfl
  rw[C.ats,aO]at h1;exact absurd h1 (C.jna (λq=>bz q.symm)).2
def fnX(C:CC J fn d names sn env s aM ws)(gd:Gd c.glob)(cs:i8 n c.call)(wd:i7 c.word)(dep:c.hd=false->A.depth+1+2*n+1<=999)(un:c.hd=false->A.units+3+10*n+7<=4000)(un0:A.units+3+4<=4000)(hh:c.hd=false->A.handled=none)(fro:tC (λa=> ∃p∈K,p.Y a) A)(ik:Eh kk J)
  (hk:env.scope.kind = .function) (hg:env.globals=mainGlobals) (hb:env.builtins=builtinsNs) (hf:env.frame=some env.locals) :Cx where
 A:=A.deeper env
 c:=c
 n:=n
 env:=env
 U:=ua kk d fn names sn
 L:=env.locals
 ls:=nW fn env<|names++c5 fn sn
 J:=J
 si:=fn.na+names.length
 K:=K
 gd:=gd
 cs:=cs
 wd:=wd
 dep:=dep
 un:=un
 un0:=un0
 hh:=hh
 stk:=aR fro λl fro=>⟨_,Around.frames_deeper fro.1,λe he=>(am.mp he).elim (λhe=>by subst he;exact⟨(by rw[hk];exact λq=>nomatch q),_,hf,.inl rfl⟩) λhe=>⟨(fro.2 e he).1,aR (fro.2 e he).2 λL u=>⟨L,u.1,.inr u.2⟩⟩⟩
 kind:=hk
 glob:=hg
 blt:=hb
 frame:=hf
 top:=aR fro λl fro=>⟨env,l,Around.frames_deeper fro.1,rfl⟩
 hi:=λi l h=>by
  cases f7 h with
  | loc k e hx=>rw[e];exact fV (av.mp hx).1 _
  | cell k e hx=>rw[e];exact fV (av.mp hx).1 _
 ap:=λi j l k hl hk ne e=>by
  have ne':∀{a b:Nat}{x z:Str},i=fn.na+a->j=fn.na+b->(names++c5 fn sn)[a]? = some x->(names++c5 fn sn)[b]? = some z->x≠z:=λh1 h2 hx hz q=>by
   subst q;exact ne (by rw[h1,h2,vU C.nd hx hz])
  cases f7 hl with
  | loc a e1 hx=>
   cases f7 hk with
   | loc b e2 hz=>exact⟨_,_,_,rfl,rfl,ne' e1 e2 hx hz⟩
   | cell b e2 hz hc=>exact absurd e<|bW (C.cl _ _ hc).1
  | cell a e1 hx hc=>
   cases f7 hk with
   | loc b e2 hz=>exact absurd e.symm<|bW (C.cl _ _ hc).1
   | cell b e2 hz hc'=>
    simp only[Loc.addr]at e;exact absurd (C.ca _ _ _ hc<|e▸hc')<|ne' e1 e2 hx hz
 var:=λx i hx=>by
  have Sv:=iG hx;have ls:=C.locS Sv.2;rw[cw Sv.1]at ls;cases ls with
  | loc hl hk=>exact .inl ⟨hk,hl⟩
  | cell c hl hk hc=>exact .inr ⟨.inl hk,c,hc,hl⟩
 gl:=λx hx=>by rw[C.kd];exact hx
 cf:=λx hx=>by rw[C.kd];exact hx
 ins:=λne=>have h:=λq=>ne<|C.no.mpr q;⟨h,(C.self h).1,(C.self h).2⟩
 inj:=ik
 an:=λh=>⟨by rw[C.ats,aO];exact(C.jna h).1,λa i e=>aR (oE e) λk u=>⟨k,u.1,by rw[C.ats];exact u.2⟩⟩
 nsi:=λj0_ x i hx e=>by
  have Sv:=iG hx;have:=(av.mp Sv.2).1;rw[<- e,b3]at this;exact fN _ this
 asl:=λi hi=>by rw[C.ats]at hi;exact Hf<|aW.mp hi
 asn:=by rw[C.ats];exact List.nodup_range
 sin:=λj0_ hi=>by rw[C.ats]at hi;exact bM.mpr (aq _ _)<|aW.mp hi
end
noncomputable def zr(J:lR)(na nn:Nat)(SM:List So)(ws:Si) :bV:=λj=>if j<na then(SM[j]?).getD none else if j=na+nn then J.map (λt=>.ref t.1) else ws[j - na]?
section
variable {J:lR}{na nn k:Nat}{SM:List So}{ws:Si}{v:Value}
theorem Jc(l:SM.length=na)(h:SM[k]? = some ov) :zr J na nn SM ws k=ov:=(if_pos<|l▸(av.mp h).1).trans (by rw[h];rfl)
theorem Jb:zr J na nn SM ws (na+nn)=J.map (λt=>.ref t.1):=(if_neg<|bM.mpr<|aq _ _).trans<|if_pos rfl
theorem CO(h:k≠nn) :zr J na nn SM ws (na+k)=ws[k]?:=(if_neg<|bM.mpr<|aq _ _).trans<|(if_neg λq=>h<|Nat.add_left_cancel q).trans (by rw[b3])
theorem CP(l:SM.length=na) :(List.range na).map (zr J na nn SM ws)=SM:=by
 subst l;refine List.ext_getElem? λi=>?_;rw[bn];by_cases q:i<SM.length
 .rw[nR q,aw q];exact congrArg some<|Jc rfl<|aw q
 .rw[cW.mpr (by rw[aO];exact bM.mp q),cW.mpr<|bM.mp q];rfl
end
section
variable {kk:Nat}{A:Around}{J:lR}{fn:Fn}{d:DefRec}{env:Env}{names:Sd}{sn:Str}{s aM s':Shared}{ws:Si}{K:List At}{c:gR}{n m:Nat}{SM:List So}{args:List Slot}{Z:Ss}
theorem CC.bind(C:CC J fn d names sn env s aM ws) :(bA env.locals (nW fn env<|names++c5 fn sn)<|zr J fn.na names.length SM ws).ok Z aM.heap:=by
 refine⟨C.ns,λi l hl=>⟨λa e=>?_,?_,λv hv=>?_⟩⟩
 .subst e;cases f7 hl with
  | cell k _ _ hc=>exact iq (C.cl _ _ hc).1
 .cases f7 hl with
  | loc=>exact C.ns
  | cell k _ _ hc=>exact(C.cl _ _ hc).2
 .have:∃k,i=fn.na+k:=by
   cases f7 hl with
   | loc k e=>exact⟨k,e⟩
   | cell k e=>exact⟨k,e⟩
  obtain⟨k,rfl⟩:=this;by_cases q:k=names.length
  .subst q;rw[Jb]at hv;obtain⟨⟨x,o,dx⟩,hJ,e⟩:=aT.mp hv;have e':=(C.self (by rw[hJ];exact λq=>bz q.symm)).2;rw[hl]at e';rw[bO e',<- e];exact C.sr x o dx hJ
  .rw[CO q]at hv;obtain⟨_,l',h1,h2⟩:=C.ar k v hv;rw[hl]at h1;rw[bO h1];exact h2
theorem CC.start(C:CC J fn d names sn env s aM ws)(gd:Gd c.glob)(cs:i8 n c.call)(wd:i7 c.word)(dep:c.hd=false->A.depth+1+2*n+1<=999)(un:c.hd=false->A.units+3+10*n+7<=4000)(un0:A.units+3+4<=4000)(hh:c.hd=false->A.handled=none)(fro:tC (λa=> ∃p∈K,p.Y a) A)(ik:Eh kk J)
  (hk:env.scope.kind = .function) (hg:env.globals=mainGlobals) (hb:env.builtins=builtinsNs) (hf:env.frame=some env.locals) (la:SM.length=fn.na) (lg:args.length=SM.length+ws.length) (y:gh s (iA J SM++(jJ (SM++ws.map some) args++K))) :
  Fr (fnX C gd cs wd dep un un0 hh fro ik hk hg hb hf) (zr J fn.na names.length SM ws) (args++List.replicate m .no) [] aM:=by
 refine⟨aR y λZ y=>⟨Z,?_⟩,λx o dx e=>?_⟩
 .have b:=C.bind (SM:=SM) (Z:=Z);have kp:=C.kp;have fresh:∀a,(bA env.locals (nW fn env<|names++c5 fn sn)<|zr J fn.na names.length SM ws).own a->s.heap.get? a=none:=λa w=>C.nw a (w.elim (λe=>Nat.le_of_eq e.symm) λw=>kL w λi l u=>by rw[<- u.2];cases f7 u.1 with
   | loc=>exact aQ _
   | cell k _ _ hc=>exact oa (C.cl _ _ hc).1)
  obtain⟨h1,tk,rfl⟩:=C.same;have y:=Pt (O:=zr J fn.na names.length SM ws) (m:=m) (k:=0+args.length)<|bD.nw (q:=bA env.locals (nW fn env<|names++c5 fn sn)<|zr J fn.na names.length SM ws) (tk:=tk) y kp (λj0_ z=>z) (λj0_ z=>.inl z) b λa w=>⟨fresh a w,λz=>aR (y.zl a z) λo e=>by rw[fresh a w]at e;exact bz e⟩;have e1:Sk (zr J fn.na names.length SM ws) 0 args=jJ (SM++ws.map some) args:=Mx (by rw[aj,ai];exact lg.symm) λj ov e=>by
   rw[aX];by_cases q:j<SM.length
   .rw[b9 q]at e;exact Jc la e
   .rw[cQ<|bM.mp q,bn]at e;obtain⟨v,hv,e⟩:=aT.mp e;rw[la]at q hv;have:=CO (J:=J) (na:=fn.na) (SM:=SM) (ws:=ws)<|bW (C.ar _ v hv).1;rw[cw<|bM.mp q]at this;rw[this,hv,e]
  show bD Z _ (bA env.locals (nW fn env<|names++c5 fn sn) _::(iA J ((ua kk d fn names sn).as.map _)++(Sk _ 0 (args++List.replicate m .no)++([]++K))))
  rw[C.ats,CP la,Mz,e1,ah];exact y.perm<|bp 5 [1,2,3,0,4] (by decide) [_,[_],iA J SM,jJ (SM++ws.map some) args,K] rfl
 .have e:J=some (x,o,dx):=e;show zr J fn.na names.length SM ws (fn.na+names.length)=_
  rw[Jb,e];rfl
theorem CC.fo(C:CC J fn d names sn env s aM ws)(gd:Gd c.glob)(cs:i8 n c.call)(wd:i7 c.word)(dep:c.hd=false->A.depth+1+2*n+1<=999)(un:c.hd=false->A.units+3+10*n+7<=4000)(un0:A.units+3+4<=4000)(hh:c.hd=false->A.handled=none)(fro:tC (λa=> ∃p∈K,p.Y a) A)(ik:Eh kk J)
  (hk:env.scope.kind = .function) (hg:env.globals=mainGlobals) (hb:env.builtins=builtinsNs) (hf:env.frame=some env.locals) (hi:interactive env=false) (hp:c.pin=fQ fn.na fn.rb args) (lg:args.length<=fn.na+names.length) :Fo (fnX C gd cs wd dep un un0 hh fro ik hk hg hb hf) where
 nf:=λx i hx=>by have Q:=iG hx;rcases C.kinds x (aN Q.2) with q | q <;> (show env.kindOf x≠_;rw[q];exact λz=>nomatch z)
 ni:=hi
 kd:=C.kd
 le:=rfl
 lv:=λj z hz=>by
  by_cases hJ:J=none
  .refine .inl (vo ?_);have h0:fn.na=0:=by have:=C.na;rw[hJ]at this;exact this.symm
   have hz:IL fn env (names++c5 fn sn) j (.dict env.locals z):=f7 hz;cases hz with
   | loc k _ hx=>have:=aN hx;rw[show c5 fn sn=[] from if_pos h0,aI]at this;exact this
  .exact .inr λq=>hJ<|C.no.mp q
 sl:=λq=>C.no.mp q
 pn:=λi hi=>by
  have hi:i∈fQ fn.na fn.rb args:=hp▸hi;show i<fn.na+(names++c5 fn sn).length
  have:i<fn.na+names.length:=(cS.mp hi).elim (λh=>aV (aW.mp (List.mem_filter.mp h).1)<|aq _ _) λh=>by
   have u:=(rZ h).2;rw[lP]at u;by_cases q:fn.na<=args.length
   .rw[cw q]at u;exact aV u lg
   .rw[Nat.sub_eq_zero_of_le<|Nat.le_of_not_le q]at u;exact aV u<|aq _ _
  exact aV this<|aG (by rw[aj];exact aq _ _) _
theorem Fr.out{O vs':bV}{P:List At}(la:SM.length=fn.na)(has:X.U.as=List.range fn.na)(hp:X.c.pin=fQ fn.na fn.rb args)(lg:args.length=SM.length+ws.length)(hv:(List.range fn.na).map O=SM)(hw:∀k v,ws[k]? = some v->O (fn.na+k)=some v)(ag:Ag X vs' O)(x:Fr X vs' Y P s) :
  ∃avs',avs'.length=SM.length/\(∀k,k∉fn.rb->avs'[k]? = SM[k]?)/\(jP fn.na args Y).length=SM.length+(gn (args.drop SM.length) ws).length/\gh s (P++(iA X.J avs'++(jJ (avs'++gn (args.drop SM.length) ws) (jP fn.na args Y)++X.K))):=by
 have ld:(args.drop fn.na).length=ws.length:=by rw[lP,lg,la,b3]
 have le:(fA fn.na<|args.drop fn.na).map vs'=gn (args.drop fn.na) ws:=yT ld λj v e m=>(ag _<|hp▸aE _ m).trans<|hw j v e;have eo:jz Y (List.range fn.na++fA fn.na (args.drop fn.na))=jP fn.na args Y:=by unfold jP;rw[<- yS];exact aY
 refine⟨(List.range fn.na).map vs',by rw[ai,aO,la],λk hk=>?_,?_,?_⟩
 .rw[<- hv,bn,bn];by_cases q:k<fn.na
  .rw[nR q];exact congrArg some<|ag k<|hp▸aC _ (List.mem_filter.mpr ⟨aW.mpr q,by rw[fJ];exact bK.mpr λz=>hk<|bJ.mp z⟩)
  .rw[cW.mpr (by rw[aO];exact bM.mp q)];rfl
 .rw[<- eo,la,<- le,ai];show(List.map _ _).length=_;rw[ai,aj,aO]
 .have nd:(List.range fn.na++fA fn.na (args.drop fn.na)).Nodup:=gS.mpr ⟨List.nodup_range,FJ,λa h1 b h2 e=>bM.mpr (rZ h2).1<|e▸aW.mp h1⟩;have x:=(Fr.takes nd x).sat;rw[eo,aY,le]at x;rw[la];unfold Cx.W at x;rw[has,ah]at x;exact gh.drop (P:=[_])<|gh.drop (P:=Sk vs' 0 _)<|x.perm<|bp 6 [2,0,4,1,3,5] (by decide) [[_],iA X.J<|(List.range fn.na).map vs',Sk vs' 0 _,jJ _<|jP fn.na args Y,P,X.K] rfl
end
section
variable {A:Around}{J:lR}{f m:Nat}{fn:Fn}{d:DefRec}{env:Env}{names:Sd}{sn:Str}{s aM s':Shared}{args:List Slot}{ws:Si}
theorem CC.of(ok:IK f d fn names sn)(hna:F6 J=fn.na)(hvl:fn.na+ws.length=fn.np)(hL:env.locals=s.heap.objs.size)(hK:∀x,env.kindOf x=d.scope.names.lookup x)(hC:env.cells=cellsFrom (s.heap.objs.size+1) d.scope.names [])
  (IC:InCallC s env.locals (bindL env.kindOf (w7 J fn names sn ws) λj0_=>none) env.cells (bindC env.kindOf (w7 J fn names sn ws) λj0_=>none) aM) :CC J fn d names sn env s aM ws:=by
 have cx:∀x,env.kindOf x=some .cell-> ∃c,env.cells.lookup x=some c:=λx q=>by rw[hC];rw[hK]at q;exact rc q
 have kinds:∀x∈names,env.kindOf x=some .local\/env.kindOf x=some .cell:=λx hx=>by rw[hK];exact ok.kinds x hx
 have skind:∀x∈c5 fn sn,env.kindOf x=some .local:=λx hx=>by rw[hK];exact ok.skind x hx
 have nb:((w7 J fn names sn ws).map (·.1)).Nodup:=by rw[rj (J:=J) ok hna hvl];exact((List.perm_append_comm (l₁:=c5 fn sn) (l₂:=names)).nodup_iff.mpr ok.nd).sublist<|List.Sublist.append (List.Sublist.refl _)<|List.take_sublist _ _
 refine⟨hna,ok.nd,kinds,skind,hK,λb h=>fI<|hL▸h,IC.toInCall.keep,IC.toInCall.same,⟨_,IC.toInCall.ns⟩,λx c hc=>⟨IC.above _ _<|mem_of_lookup hc,_,IC.cell _ _ hc⟩,λx z c h1 h2=>name_of_addr IC.apart (mem_of_lookup h1)<|mem_of_lookup h2,cx,λk v hv=>?_,λx o dx hJ=>?_⟩
 .have hkv:=(av.mp hv).1;have hin':=(tT ok hvl).symm▸hkv;have hin:=aV hin'<|List.length_take_le' _ _;refine⟨hin,?_⟩;have hx':(names++c5 fn sn)[k]? = some names[k]:=by rw[b9 hin];exact aw hin
  have hz:(w7 J fn names sn ws)[(c5 fn sn).length+k]? = some (names[k],v):=by
   refine List.getElem?_zip_eq_some.mpr ⟨?_,?_⟩
   .rw[cQ<|aq _ _,b3,aw hin',List.getElem_take]
   .rw[t8 hna,cQ<|aq _ _,b3];exact hv
  rcases kinds names[k] (lQ hin) with q | q
  .exact⟨_,wv hx' q,_,IC.toInCall.ns,nh _ _ _ _ v nb hz q⟩
  .refine aR (cx _ q) λc hc=>?_;have:=IC.cell _ c hc;rw[rn _ _ _ _ v nb hz (by rw[q];exact λz=>nomatch z)]at this;exact⟨_,CR hx' q hc,this⟩
 .have e:c5 fn sn=[sn]:=oR (λq=>by rw[hJ]at hna;exact Ea<|hna.trans q);refine⟨_,IC.toInCall.ns,nh _ _ 0 _ _ nb ?_<|skind sn (by rw[e];exact .head _)⟩;unfold w7;rw[e,hJ];rfl
set_option backward.match.sparseCases true in
noncomputable def Qh:Flow->Value
 | .ret v=>v
 | _=>.none
end
theorem EA{P:Pr}{e:Str}{d:D}(h:bT P f e=some d) :∃fn Y,P.fns[f]? = some fn/\fn.np=1/\exSs ⟨P.glob,λj0_ j1_=>none,fQ fn.na fn.rb [.exc e],true,λj0_ j1_=>none⟩ fn.body (.exc e::List.replicate (fn.nv - 1) .no)=some (.ok<|.ret<|.fz d,Y):=by unfold bT at h;cases hf:P.fns[f]? with
 | none=>rw[hf]at h;exact bz h
 | some fn=>
  rw[hf]at h;have h:=Cv h;refine⟨fn,?_⟩;rcases q:exSs ⟨P.glob,λj0_ j1_=>none,fQ fn.na fn.rb [.exc e],true,λj0_ j1_=>none⟩ fn.body (.exc e::List.replicate (fn.nv - 1) .no) with _ | ⟨x | (_ | r),Y⟩
  .rw[q]at h;exact bz h.2
  .rw[q]at h;exact bz h.2
  .rw[q]at h;exact bz h.2
  .rw[q]at h;cases r with
   | fz d'=>exact⟨Y,rfl,h.1,by rw[show d'=d from bO h.2]⟩
   | _=>exact bz h.2
theorem vp{P:Pr}(gd:Gd P.glob)(fok:∀f fn d,P.fns[f]? = some fn->tb.fn[f]? = some d-> ∃names sn,IK f d fn names sn) :i7 (bT P):=by
 intro f e dd h d hd fa hfa A K a s hdep hun fro y;obtain⟨fn,fr',hfn,hnp,hex⟩:=EA h;obtain⟨names,sn,ok⟩:=fok f fn d hfn hd;obtain⟨hJf,ik,ob,qual,pm,code,doc,ho,hdat,hcr⟩:=hfa;have hna:=BJ ok hJf;have hvl:fn.na+[Value.ref a].length=fn.np:=by rw[hnp,<- hna];rfl
 have base:∀a o,B.get? a=some o->s.heap.get? a=some o:=aR y λZ y=>y.base;refine codeAny_call_cells (fd:=methDef d.name qual d.params d.body d.scope pm code doc) (body:=d.body) hdep (base fa ob ho) hdat (gd.nl.keeps base) (hcr.keeps base) rfl (ok.bind none [.ref a] hna hvl qual pm code doc) rfl (rm ok hna hvl) (λaM IC=>?_) ok.co ok.gen ok.kind;have C:=CC.of (env:=callEnvC (methDef d.name qual d.params d.body d.scope pm code doc) s.heap.objs.size fa) ok hna hvl rfl (λj0_=>rfl) rfl IC;have hi:interactive (callEnvC (methDef d.name qual d.params d.body d.scope pm code doc) s.heap.objs.size fa)=false:=by unfold interactive;show(d.scope.kind == .module&&_)=false;rw[ok.kind];rfl
 have nw: [Slot.exc e].length<=fn.na+names.length:=by have:=ok.np;rw[hnp]at this;exact this
 have cs:i8 0 (λj0_ j1_=>none):=λf args res outs h=>bz h;have wd:i7 (λj0_ j1_=>none):=λf e d h=>bz h;have st:=C.start (c:=⟨P.glob,λj0_ j1_=>none,fQ fn.na fn.rb [.exc e],true,λj0_ j1_=>none⟩) (m:=fn.nv - 1) (SM:=[]) (args:=[.exc e]) gd cs wd (λq=>nomatch q) (λq=>nomatch q) hun (λq=>nomatch q) fro ik ok.kind rfl rfl rfl hna rfl y;have fo:=C.fo (c:=⟨P.glob,λj0_ j1_=>none,fQ fn.na fn.rb [.exc e],true,λj0_ j1_=>none⟩) gd cs wd (λq=>nomatch q) (λq=>nomatch q) hun (λq=>nomatch q) fro ik ok.kind rfl rfl rfl hi rfl nw;refine aK (AQ ok.body _ rfl fo _ _ _ _ _ hex st) (λfl s' p=>?_) λe s' p=>p.no;cases p with
 | next vs' q=>exact nomatch (ky q)
 | ret vs' r v dd a b e g x=>subst b;cases ky a;exact⟨v,rfl,(x.sat.perm<|g8 (P:=[zA (some v) _]) ..).sub<|List.Sublist.cons_cons _<|List.Sublist.cons _<|List.Sublist.trans (b8 _ _)<|b8 _ _⟩
theorem w6{P:Pr}(gd:Gd P.glob)(fok:∀f fn d,P.fns[f]? = some fn->tb.fn[f]? = some d-> ∃names sn,IK f d fn names sn) :∀n,i8 n (cF P n):=by have wd:=vp gd fok;intro n;induction n with
 | zero=>intro f args res outs h;exact bz h
 | succ n IH=>
  intro f args res outs h d hd J fa hfa A K SM ws s hdep hun hhd fro la lg y;obtain⟨fn,fr',o,hfn,hlen,hex,rfl,rfl⟩:=DS h;refine kL (fok f fn d hfn hd) λnames sn ok=>?_;obtain⟨hJf,ik,ob,qual,pm,code,doc,ho,hdat,hcr⟩:=hfa;have hna:=BJ ok hJf;rw[hna]at la;have hvl:fn.na+ws.length=fn.np:=by rw[<- hlen,lg,la]
  have base:∀a o,B.get? a=some o->s.heap.get? a=some o:=aR y λZ y=>y.base;refine codeAny_call_cells (fd:=methDef d.name qual d.params d.body d.scope pm code doc) (body:=d.body) (by show A.depth<1000;omega) (base fa ob ho) hdat (gd.nl.keeps base) (hcr.keeps base) rfl (ok.bind J ws hna hvl qual pm code doc) rfl (rm ok hna hvl) (λaM IC=>?_) ok.co ok.gen ok.kind;have C:=CC.of (env:=callEnvC (methDef d.name qual d.params d.body d.scope pm code doc) s.heap.objs.size fa) ok hna hvl rfl (λj0_=>rfl) rfl IC;have hi:interactive (callEnvC (methDef d.name qual d.params d.body d.scope pm code doc) s.heap.objs.size fa)=false:=by unfold interactive;show(d.scope.kind == .module&&_)=false;rw[ok.kind];rfl
  have dep:A.depth+1+2*n+1<=999:=by omega
  have un:A.units+3+10*n+7<=4000:=by omega
  have un0:A.units+3+4<=4000:=by omega
  have nw:args.length<=fn.na+names.length:=by rw[hlen];exact ok.np
  have st:=C.start (c:=⟨P.glob,cF P n,fQ fn.na fn.rb args,false,bT P⟩) (m:=fn.nv - fn.np) gd IH wd (λj0_=>dep) (λj0_=>un) un0 (λj0_=>hhd) fro ik ok.kind rfl rfl rfl la lg y;have fo:=C.fo (c:=⟨P.glob,cF P n,fQ fn.na fn.rb args,false,bT P⟩) gd IH wd (λj0_=>dep) (λj0_=>un) un0 (λj0_=>hhd) fro ik ok.kind rfl rfl rfl hi rfl nw;have hX:∃X,X=fnX C (c:=⟨P.glob,cF P n,fQ fn.na fn.rb args,false,bT P⟩) gd IH wd (λj0_=>dep) (λj0_=>un) un0 (λj0_=>hhd) fro ik ok.kind rfl rfl rfl:=⟨_,rfl⟩
  obtain⟨X,hX⟩:=hX;have G:X.U=ua (kf f) d fn names sn:=by rw[hX];rfl
  have e1:X.A=A.deeper (callEnvC (methDef d.name qual d.params d.body d.scope pm code doc) s.heap.objs.size fa):=by rw[hX];rfl
  have e2:X.env=callEnvC (methDef d.name qual d.params d.body d.scope pm code doc) s.heap.objs.size fa:=by rw[hX];rfl
  have e3:X.c=⟨P.glob,cF P n,fQ fn.na fn.rb args,false,bT P⟩:=by rw[hX];rfl
  have e4:X.J=J:=by rw[hX];rfl
  have e5:X.K=K:=by rw[hX];rfl
  have has:X.U.as=List.range fn.na:=by rw[G];exact C.ats
  rw[<- hX]at st fo;clear hX;have key:=AQ ok.body X G fo _ _ _ _ (o,fr') (by rw[e3];exact hex) st;rw[e1,e2]at key;have hp:X.c.pin=fQ fn.na fn.rb args:=by rw[e3]
  have hw:∀k v,ws[k]? = some v->zr J fn.na names.length SM ws (fn.na+k)=some v:=λk v e=>(CO<|bW (C.ar k v e).1).trans e;have post:∀{vs':bV}{Q:List At}{s':Shared}{r:Result},Ag X vs' (zr J fn.na names.length SM ws)->Fr X vs' fr' Q s'->(∀W,gh s' (Q++W)->IF (xD o) r s' W)->mJ J (tG f) K SM ws args (xD o) (jP fn.na args fr') r s':=λag x k=>by obtain⟨avs',l1,l2,l3,z⟩:=Fr.out la has hp lg (CP la) hw ag x;rw[e4,e5]at z;exact⟨avs',l1,(by rw[<- ok.rb];exact l2),l3,k _ z⟩
  refine aK key (λfl s' p=>?_) λe s' p=>?_
  .show mJ J (tG f) K SM ws args (xD o) (jP fn.na args fr') (.ok<|.ret<|Qh fl) s'
   cases p with
   | next vs' a b g x=>subst b;have a:o = .ok .next:=a;subst a;exact post g x λW z=>.ok _ _ rfl rfl<|aR z λZ z=>⟨Z,z.val .none⟩
   | ret vs' r v dd a b e g x=>subst b;have a:o = .ok (.ret r):=a;subst a;exact post g x λW z=>.ok r v rfl rfl (by rw[aI]at z;exact z)
  .obtain⟨vs',g,p⟩:=p;rw[<- e1,<- e2];unfold leaving;refine ae<|p.noteW λbC lY=>lY.fly λgJ rW=>?_;obtain⟨nm,a,Q,q,rfl,_,x⟩:=rW;have q:o = .error nm:=q;subst q;exact post g x λW z=>.err nm a Q rfl rfl z
end Mv
end
section
namespace Mv
open PySem PyProof.Rows
noncomputable def Oq(U:Sc)(x:Str) :Bool:=decide (U.names.lookup x = some .globalImplicit) && !(x == ("__debug__" :Str))
noncomputable def Oo(U:Sc)(x:Str)(i:Nat) :Bool:=decide (U.vars.lookup x = some i) && !(x == ("__debug__" :Str))
theorem GM{x:Str}(h:Oq U x=true) :U.isG x:=by simp only[Oq,az,cC,fJ]at h;exact h
theorem GL{x:Str}(h:Oo U x i=true) :U.isV x i:=by simp only[Oo,az,cC,fJ]at h;exact h
def L7:Const->D->Bool
 | .none,.none=>true
 | .bool a,.bool b=>a==b
 | .int a,.int b=>a==b
 | .str a,.str b=>decide (a=b)&&PyData.strOk a&&decide (a.cps.size<=Sz)
 | _,_=>false
theorem kS{k:Const}{d:D}(h:L7 k d=true) :gf k d:=by
 cases k <;> first | exact Bool.noConfusion h | (cases d <;> first | exact Bool.noConfusion h | exact .none | (refine Er (eq_of_beq h) ?_;first | exact .bool _ | exact .int _) | skip)
 exact Er (aF (ao.mp (ao.mp h).1).1).symm<|.str _ (ao.mp (ao.mp h).1).2<|aF (ao.mp h).2
noncomputable def DH(scope:Scope)(U:Sc)(O:Sd) :Bool:=
 decide (scope.kind = .function)&&(scope.names.all λx=>decide<|x.2 = .local->scope.names.lookup x.1=some .local)&&(scope.names.all λx=>decide<|x.2≠ .cell)&&(O.all λv=>decide<|scope.names.lookup v=some .local)&&decide O.Nodup &&
 (scope.names.all λx=>decide (x.2 = .free->scope.names.lookup x.1 = some .free/\(x.1 == ("__classdict__" :Str)) = false/\(U.vars.lookup x.1).isSome = true/\(U.names.lookup x.1 = some .cell\/U.names.lookup x.1 = some .free))) &&
 decide (((scope.names.filter λx=>x.2 == .free).map (·.1)).Nodup)
theorem z0{O:Sd}(h:DH scope U O=true) :kg scope U O:=by simp only[DH,az,cC,aB]at h;refine cX λSD g=>?_;obtain⟨⟨⟨⟨⟨⟨h1,h2⟩,h3⟩,h4⟩,h4'⟩,h5⟩,h6⟩:=h;exact g <| ⟨h1,h2,h3,h4,h4',λx hx hf=>let ⟨a,b,c,d⟩:=h5 x hx hf;⟨a,b,i9.mp c,d⟩,h6⟩
structure Ck(p:Prop) where
 val:Bool
 ok:val=true->p
namespace Ck
variable {p q:Prop}
noncomputable def no:Ck p:=⟨false,λh=>nomatch h⟩
noncomputable def dec(p:Prop)[Decidable p] :Ck p:=⟨decide p,aF⟩
noncomputable def ofB{b:Bool}(h:b=true->p) :Ck p:=⟨b,h⟩
theorem D8{a b:Bool}(h:(a&&b)=true) :a=true/\b=true:=by cases a <;> cases b <;> first | exact⟨rfl,rfl⟩ | cases h
noncomputable def and(a:Ck p)(b:Ck q) :Ck (p/\q):=⟨a.val&&b.val,λh=>⟨a.ok (D8 h).1,b.ok (D8 h).2⟩⟩
noncomputable def map(a:Ck p)(f:p->q) :Ck q:=⟨a.val,λh=>f<|a.ok h⟩
noncomputable def or(a b:Ck p) :Ck p:=⟨a.val||b.val,λh=>(fX.mp h).elim a.ok b.ok⟩
end Ck
def vw(p:Expr->Prop)(e:Expr)(nm:∀v a,Ck (p<|.Name v a):=λj0_ j1_=>.no)(con:∀v a b,Ck (p<|.Constant v a b):=λj0_ j1_ j2_=>.no)(att:∀o a b,Ck (p<|.Attribute o a b):=λj0_ j1_ j2_=>.no)(cal:∀g as pos,Ck (p<|.Call g as [] pos):=λj0_ j1_ j2_=>.no)(tup:∀es a b,Ck (p<|.Tuple es a b):=λj0_ j1_ j2_=>.no)(lis:∀es a,Ck (p<|.List es a):=λj0_ j1_=>.no)(bin:∀l o r a,Ck (p<|.BinOp l o r a):=λj0_ j1_ j2_ j3_=>.no)(un:∀o l a,Ck (p<|.UnaryOp o l a):=λj0_ j1_ j2_=>.no)(cmp:∀l os es a,Ck (p<|.Compare l os es a):=λj0_ j1_ j2_ j3_=>.no)(boo:∀o l a,Ck (p<|.BoolOp o l a):=λj0_ j1_ j2_=>.no)(sub:∀l i a,Ck (p<|.Subscript l i a):=λj0_ j1_ j2_=>.no)(dic:∀l i a,Ck (p<|.Dict l i a):=λj0_ j1_ j2_=>.no)(ife:∀c l r a,Ck (p<|.IfExp c l r a):=λj0_ j1_ j2_ j3_=>.no) :Ck (p e):=match e with
 | .Name v a=>nm v a
 | .Constant v a b=>con v a b
 | .Attribute o a b=>att o a b
 | .Call g as [] pos=>cal g as pos
 | .Tuple es a b=>tup es a b
 | .List es a=>lis es a
 | .BinOp l o r a=>bin l o r a
 | .UnaryOp o l a=>un o l a
 | .Compare l os es a=>cmp l os es a
 | .BoolOp o l a=>boo o l a
 | .Subscript l i a=>sub l i a
 | .Dict l i a=>dic l i a
 | .IfExp c l r a=>ife c l r a
 | _=>.no
section
variable (p:Expr->Prop)(e:Expr)
def cV(k:∀v a,Ck<|p<|.Name v a) :Ck (p e):=vw p e (nm:=k)
def fR(k:∀v a b,Ck<|p<|.Constant v a b) :Ck (p e):=vw p e (con:=k)
def dw(k:∀o a b,Ck<|p<|.Attribute o a b) :Ck (p e):=vw p e (att:=k)
def iV(k:∀g as pos,Ck<|p<|.Call g as [] pos) :Ck (p e):=vw p e (cal:=k)
def mY(k:∀es a b,Ck<|p<|.Tuple es a b) :Ck (p e):=vw p e (tup:=k)
def NW(k:∀es a,Ck<|p<|.List es a) :Ck (p e):=vw p e (lis:=k)
def K0(k:∀l o r a,Ck<|p<|.BinOp l o r a) :Ck (p e):=vw p e (bin:=k)
def um(k:∀o l a,Ck<|p<|.UnaryOp o l a) :Ck (p e):=vw p e (un:=k)
def o5(k:∀l os es a,Ck<|p<|.Compare l os es a) :Ck (p e):=vw p e (cmp:=k)
def F9(k:∀o l a,Ck<|p<|.BoolOp o l a) :Ck (p e):=vw p e (boo:=k)
def hM(k:∀l i a,Ck<|p<|.Subscript l i a) :Ck (p e):=vw p e (sub:=k)
def BK(k:∀l i a,Ck<|p<|.Dict l i a) :Ck (p e):=vw p e (dic:=k)
def KZ(k:∀c l r a,Ck<|p<|.IfExp c l r a) :Ck (p e):=vw p e (ife:=k)
end
noncomputable def n0{α:Type}(p:List α->Prop)(l:List α)(k:Ck (p [])) :Ck (p l):=match l with | []=>k | _=>.no
noncomputable def n1{α:Type}(p:List α->Prop)(l:List α)(k:∀a,Ck<|p [a]) :Ck (p l):=match l with | [a]=>k a | _=>.no
noncomputable def n2{α:Type}(p:List α->Prop)(l:List α)(k:∀a b,Ck<|p [a,b]) :Ck (p l):=match l with | [a,b]=>k a b | _=>.no
noncomputable def n3{α:Type}(p:List α->Prop)(l:List α)(k:∀a b c,Ck<|p [a,b,c]) :Ck (p l):=match l with | [a,b,c]=>k a b c | _=>.no
noncomputable def O(q:Stmt->Prop)(s:Stmt)(asg:∀t v a,Ck (q<|.Assign [t] v a):=λj0_ j1_ j2_=>.no)(exp:∀v a,Ck (q<|.Expr v a):=λj0_ j1_=>.no)(iff:∀c l r a,Ck (q<|.If c l r a):=λj0_ j1_ j2_ j3_=>.no)(ret:∀v a,Ck (q<|.Return (some v) a):=λj0_ j1_=>.no)(fo:∀g i l a,Ck (q<|.For g i l [] a):=λj0_ j1_ j2_ j3_=>.no)(wh:∀c l a,Ck (q<|.While c l [] a):=λj0_ j1_ j2_=>.no)(rai:∀v a,Ck (q<|.Raise (some v) none a):=λj0_ j1_=>.no)(tr:∀l G a,Ck (q<|.Try l G [] [] a):=λj0_ j1_ j2_=>.no) :Ck (q s):=match s with
 | .Assign [t] v a=>asg t v a
 | .Expr v a=>exp v a
 | .If c l r a=>iff c l r a
 | .Return (some v) a=>ret v a
 | .For g i l [] a=>fo g i l a
 | .While c l [] a=>wh c l a
 | .Raise (some v) none a=>rai v a
 | .Try l G [] [] a=>tr l G a
 | _=>.no
section
variable (q:Stmt->Prop)(s:Stmt)
def y0(k:∀t v a,Ck<|q<|.Assign [t] v a) :Ck (q s):=O q s (asg:=k)
def F8(k:∀v a,Ck<|q<|.Expr v a) :Ck (q s):=O q s (exp:=k)
def RZ(k:∀c l r a,Ck<|q<|.If c l r a) :Ck (q s):=O q s (iff:=k)
def F7(k:∀v a,Ck<|q<|.Return (some v) a) :Ck (q s):=O q s (ret:=k)
def Qr(k:∀g i l a,Ck<|q<|.For g i l [] a) :Ck (q s):=O q s (fo:=k)
def Qo(k:∀c l a,Ck<|q<|.While c l [] a) :Ck (q s):=O q s (wh:=k)
def Qq(k:∀v a,Ck<|q<|.Raise (some v) none a) :Ck (q s):=O q s (rai:=k)
def NV(k:∀l G a,Ck<|q<|.Try l G [] [] a) :Ck (q s):=O q s (tr:=k)
end
section
variable {U:Sc}{x:Ex}(e:Expr)
def Oy(k:∀v p a b,Ck<|CE U (.Attribute (.Name v p) a b) x) :Ck (CE U e x):=dw (λe=>CE U e x) e λo a b=>cV (λo=>CE U (.Attribute o a b) x) o λv p=>k v p a b
def qP(k:∀v p as pos,Ck<|CE U (.Call (.Name v p) as [] pos) x) :Ck (CE U e x):=iV (λe=>CE U e x) e λg as pos=>cV (λg=>CE U (.Call g as [] pos) x) g λv p=>k v p as pos
def CB(k:∀o m ap as pos,Ck<|CE U (.Call (.Attribute o m ap) as [] pos) x) :Ck (CE U e x):=iV (λe=>CE U e x) e λg as pos=>dw (λg=>CE U (.Call g as [] pos) x) g λo m ap=>k o m ap as pos
end
noncomputable def z6(U:Sc)(x:Str)(i:Nat) :Ck (U.isV x i):=.ofB GL
noncomputable def qt(U:Sc)(x:Str) :Ck (U.isG x):=.ofB GM
structure R9(g:Expr)(t:ja) where
 O:Sd
 i:Nat
 ck:Ck (CG i g O t)
noncomputable def w2(g:Expr)(t:ja) :R9 g t:=match t with
 | .one i=>(match g with
  | .Name v _=>⟨[v],i,⟨true,λj0_=>.one⟩⟩
  | _=>⟨[],0,.no⟩)
 | .tup [i,j]=>(match g with
  | .Tuple [.Name a _,.Name b _] _ _=>⟨[a,b],i,(Ck.dec<|j=i+1).map λh=>h▸ .two⟩
  | _=>⟨[],0,.no⟩)
 | _=>⟨[],0,.no⟩
section
variable {U:Sc}
theorem Oc{a b:Expr}{op:Operator}{x y:Ex}(h:op=FQ o/\CE U a x/\CE U b y) :CE U (.BinOp a op b pos) (.op2 o x y):=by refine Er h.1 ?_;exact .op2 h.2.1 h.2.2
theorem Oi{a b:Expr}{op:CmpOp}{x y:Ex}(h:op=iO o/\CE U a x/\CE U b y) :CE U (.Compare a [op] [b] pos) (.cmp o x y):=by refine Er h.1 ?_;exact .cmp h.2.1 h.2.2
theorem Lj{a b e:Expr}{op op':CmpOp}{o p:Cm}{x y z:Ex}(h:(op=iO o/\op'=iO p)/\CE U a x/\CE U b y/\CE U e z) :CE U (.Compare a [op,op'] [b,e] pos) (.cmp2 o p x y z):=by obtain⟨⟨rfl,rfl⟩,a,b,c⟩:=h;exact .cmp2 a b c
theorem QB(h:o=Am j/\Em U es S) :CE U (.BoolOp o es pos) (.bo j S):=by refine Er h.1 ?_;exact .bo h.2
def OK(f:Nat)(v:Str) :Bool:=match tb.fn[f]? with
 | some d=>decide<|d.name=v
 | none=>false
theorem kK{v:Str}(h:OK f v=true) :∃d,tb.fn[f]? = some d/\d.name=v:=by unfold OK at h;cases q:tb.fn[f]? with
 | none=>have h:=q▸h;cases h
 | some d=>rw[q]at h;exact⟨d,rfl,aF h⟩
theorem dQ{v:Str}{p pos:Pos}(h:(∃d,tb.fn[f]? = some d/\d.name=v)/\U.isG v/\Em U args S/\args.length<=29/\f<tb.m0) :CE U (.Call (.Name v p) args [] pos) (.call f S):=by obtain⟨⟨d,hd,rfl⟩,a,b,c,e⟩:=h;exact .call ⟨hd,e⟩ a b c
theorem GI{v:Str}{p pos:Pos}{x:Ex}(hne:es≠ [])(h:(∃d,tb.fn[f]? = some d/\d.name=v)/\U.isG v/\Em U es.dropLast S/\CE U (es.getLast hne) x/\f<tb.m0) :CE U (.Call (.Name v p) es [] pos) (.callw f S x):=by obtain⟨⟨d,hd,rfl⟩,a,b,c,e⟩:=h;exact .callw ⟨hd,e⟩ a b c (List.dropLast_concat_getLast hne).symm
theorem Oj{b:Bi}{v:Str}{p pos:Pos}{x:Ex}(h:b.one=true/\v=gN b/\U.isG v/\CE U a x) :CE U (.Call (.Name v p) [a] [] pos) (.bi b [x]):=by obtain rfl:=h.2.1;exact .bi1 h.1 h.2.2.1 h.2.2.2
theorem Og{t:Ty}{v u:Str}{p p' pos:Pos}{x:Ex}(h:v = ("isinstance" :Str)/\u = (fL t:Str)/\U.isG v/\U.isG u/\CE U a x) :CE U (.Call (.Name v p) [a,.Name u p'] [] pos) (.bi (.isi t) [x]):=by obtain rfl:=h.1;obtain rfl:=h.2.1;exact .isi h.2.2.1 h.2.2.2.1 h.2.2.2.2
theorem Lg{v u:Str}{p p' pos pos':Pos}{a b:Expr}(h:(v = ("dict" :Str)/\u = ("zip" :Str))/\U.isG v/\U.isG u) :BX U (.Call (.Name v p) [.Call (.Name u p') [a,b] [] pos'] [] pos) .dzip [a,b]:=by obtain⟨⟨rfl,rfl⟩,a,b⟩:=h;exact .dzip a b
def u5(U:Sc)(x a:Str)(i:Nat) :Ck (U.isA x a i):=(Ck.dec (x = U.sn/\U.ats.lookup a = some i/\a∈(tb.cr U.k).elim [] (·.statics)/\(x == ("__debug__" :Str)) = false)).map λh=>⟨h.1,h.2.1,h.2.2.1,h.2.2.2⟩
def Ih(U:Sc)(o:Expr)(i:Nat) :Ck (PE U o i):=.or (cV (λo=>PE U o i) o λx j0_=>(z6 U x i).map .nm)<|dw (λo=>PE U o i) o λo a b=>cV (λo=>PE U (.Attribute o a b) i) o λx j0_=>(u5 U x a i).map .atr
def O5:(kes:List (Option Expr))->(ks:Sd)->Ck (KS kes ks)
 | [],[]=>⟨true,λj0_=>.nil⟩
 | some e::es,k'::ks=>fR (λe=>KS (some e::es) (k'::ks)) e λc a b=>(match c with
  | .str k=>((Ck.dec<|k=k').and<|O5 es ks).map λh=>h.1▸ .cons h.2
  | _=>.no)
 | _,_=>.no
theorem GH{v x:Str}{as:Sg}{p ap pos:Pos}(h:(∃d,tb.fn[f]? = some d/\d.name = v)/\(as = U.as/\(tb.m0<=f/\kf f = U.k/\tb.rb[f - tb.m0]? = some [])/\x = U.sn/\(x == ("__debug__" :Str)) = false/\U.ats.isEmpty = false/\(ap.endLine == pos.line) = true/\args.length<=28)/\Em U args S) :CE U (.Call (.Attribute (.Name x p) v ap) args [] pos) (.mcall f as S):=by obtain⟨⟨d,hd,rfl⟩,⟨rfl,h1,h3,h4,h5,h6,h7⟩,h8⟩:=h;exact .mcall ⟨hd,h1⟩ ⟨h3,h4,λq=>by rw[q]at h5;exact Bool.noConfusion h5⟩ h6 h8 h7
theorem N6{v:Str}{p pos:Pos}{a b:Expr}{x z:Ex}(h:v = ("zip" :Str)/\U.isG v/\CE U a x/\CE U b z) :IT U (.Call (.Name v p) [a,b] [] pos) .zip [x,z]:=by obtain rfl:=h.1;exact .zip h.2.1 h.2.2.1 h.2.2.2
theorem Ld{v:Str}{p pos:Pos}{e:Expr}{x:Ex}(h:v = ("enumerate" :Str)/\U.isG v/\CE U e x) :IT U (.Call (.Name v p) [e] [] pos) .enum [x]:=by obtain rfl:=h.1;exact .enum h.2.1 h.2.2
theorem N9{op:CmpOp}{s a x:Str}{p ap px pos:Pos}(h:op = .NotIn/\U.isV x j/\U.isA s a i) :CE U (.Compare (.Name x px) [op] [.Attribute (.Name s p) a ap] pos) (.tin i<|.var j):=by obtain rfl:=h.1;exact .tin h.2.1 h.2.2
theorem Oa{v:Str}{p pos:Pos}{e:Expr}{x:Ex}(h:v = ("reversed" :Str)/\U.isG v/\CE U e x) :IT U (.Call (.Name v p) [e] [] pos) .rev [x]:=by obtain rfl:=h.1;exact .rev h.2.1 h.2.2
theorem Ob(h:(m = ("pop" :Str)/\(ap.endLine == pos.line) = true)/\PE U o i) :CE U (.Call (.Attribute o m ap) [] [] pos) (.pop (.var i)):=by obtain⟨⟨rfl,e⟩,a⟩:=h;exact .pop a e
theorem Oh{m x:Str}{p ap kp pos:Pos}{k i:Nat}{b b':Bool}(h:(m = ("count" :Str)/\(ap.endLine == pos.line) = true/\b' = b)/\U.isV x i) :CE U (.Call (.Attribute (.Name x p) m ap) [.Constant (.bool b') k kp] [] pos) (.cnt i b):=by obtain⟨⟨rfl,e,rfl⟩,a⟩:=h;exact .cnt a e
theorem GF{v:Str}{p pos:Pos}{e:Expr}{x:Ex}(h:v = ("range" :Str)/\U.isG v/\CE U e x) :IT U (.Call (.Name v p) [e] [] pos) .range [x]:=by obtain rfl:=h.1;exact .range h.2.1 h.2.2
end
theorem N7{x:Ex} :(o = .USub/\CE U a x->CE U (.UnaryOp o a pos) (.neg x))/\(o = .Not/\CE U a x->CE U (.UnaryOp o a pos) (.not x)):=⟨λh=>Er h.1<|.neg h.2,λh=>Er h.1<|.not h.2⟩
theorem Lh{ks:Sd}{vals:Sn}(h:KS kes ks/\Em U vals S/\(∀k∈ks,PyData.strOk k=true/\k.cps.size<=Sz)/\ks.Nodup/\ks.length=S.length/\(ks≠ []/\ks.length<=15)) :CE U (.Dict kes vals pos) (.disp ks S):=
 .disp h.1 h.2.1 ⟨h.2.2.2.1,h.2.2.1⟩ h.2.2.2.2.1 h.2.2.2.2.2
theorem Qz{z x:Str}{p:Pos}(h:z=x/\U.isG z/\NS U es S) :NS U (.Name z p::es) (x::S):=by obtain⟨rfl,a,b⟩:=h;exact .cons a b
noncomputable def FU:Sn->Sd
 | .Name x _::es=>x::FU es
 | _=>[]
def O4(U:Sc) :(es:Sn)->(S:Sd)->Ck (NS U es S)
 | [],[]=>⟨true,λj0_=>.nil⟩
 | e::es,x::S=>cV (λe=>NS U (e::es) (x::S)) e λz j0_=>((Ck.dec<|z=x).and<|(qt U z).and<|O4 U es S).map Qz
 | _,_=>.no
theorem Of{v x cn:Str}{p p1 p2 pos:Pos}{yes no:Sd}(h:(v = ("isinstance" :Str)/\tb.sub.lookup cn = some (yes,no))/\U.isG v/\U.isV x i/\U.isG cn) :CE U (.Call (.Name v p) [.Name x p1,.Name cn p2] [] pos) (.isx i yes no):=by obtain⟨⟨rfl,a⟩,b,c,d⟩:=h;exact .isx b c d a
theorem Lc{v x:Str}{p p1 p2 pos:Pos}{k i:Nat}{yes no:Sd}(h:(v = ("isinstance" :Str)/\cs.length<=1000/\tb.sbt.lookup cs = some (yes,no))/\U.isG v/\U.isV x i/\NS U es cs) :CE U (.Call (.Name v p) [.Name x p1,.Tuple es k p2] [] pos) (.isx i yes no):=by obtain⟨⟨rfl,a,a'⟩,b,c,d⟩:=h;exact .isxt b c d a a'
section
variable (f:(U:Sc)->(x:Ex)->(e:Expr)->Ck (CE U e x))
noncomputable def jy(U:Sc) :(S:List Ex)->(es:Sn)->Ck (Em U es S)
 | [],[]=>⟨true,λj0_=>.nil⟩
 | x::S,e::es=>((f U x e).and<|jy U S es).map λh=>.cons h.1 h.2
 | _,_=>.no
noncomputable def O6(U:Sc)(x:Ex)(o:Option Expr) :Ck (Sa U o x):=match o with
 | some e=>(f U x e).map .osome
 | none=>(match x with
  | .lit .none=>⟨true,λj0_=>.onone⟩
  | _=>.no)
def chkI(U:Sc)(it:kZ)(src:List Ex)(e:Expr) :Ck (IT U e it src):=match it with
 | .seq=>n1 (λsrc=>IT U e .seq src) src λx=>(f U x e).map .seq
 | .range=>iV (λe=>IT U e .range src) e λg as pos=>cV (λg=>IT U (.Call g as [] pos) .range src) g λv p=>n1 (λas=>IT U (.Call (.Name v p) as [] pos) .range src) as λe=>n1 (λsrc=>IT U (.Call (.Name v p) [e] [] pos) .range src) src λx=>((Ck.dec (v = ("range" :Str))).and ((qt U v).and (f U x e))).map GF
 | .enum=>iV (λe=>IT U e .enum src) e λg as pos=>cV (λg=>IT U (.Call g as [] pos) .enum src) g λv p=>n1 (λas=>IT U (.Call (.Name v p) as [] pos) .enum src) as λe=>n1 (λsrc=>IT U (.Call (.Name v p) [e] [] pos) .enum src) src λx=>((Ck.dec (v = ("enumerate" :Str))).and ((qt U v).and (f U x e))).map Ld
 | .zip=>iV (λe=>IT U e .zip src) e λg as pos=>cV (λg=>IT U (.Call g as [] pos) .zip src) g λv p=>n2 (λas=>IT U (.Call (.Name v p) as [] pos) .zip src) as λa b=>n2 (λsrc=>IT U (.Call (.Name v p) [a,b] [] pos) .zip src) src λx z=>((Ck.dec (v = ("zip" :Str))).and ((qt U v).and ((f U x a).and (f U z b)))).map N6
 | .rev=>iV (λe=>IT U e .rev src) e λg as pos=>cV (λg=>IT U (.Call g as [] pos) .rev src) g λv p=>n1 (λas=>IT U (.Call (.Name v p) as [] pos) .rev src) as λe=>n1 (λsrc=>IT U (.Call (.Name v p) [e] [] pos) .rev src) src λx=>((Ck.dec (v = ("reversed" :Str))).and ((qt U v).and (f U x e))).map Oa
def Nv(U:Sc)(x:Ex)(e:Expr) :Ck (CE U e x):=match x with
 | .lit d=>fR (λe=>CE U e _) e λk j0_ j1_=>.ofB λh=>.lit<|kS (k:=k) (d:=d) h
 | .var i=>.or (cV (λe=>CE U e _) e λv j0_=>(z6 U v i).map .var)<|Oy e λx j0_ a j1_=>(u5 U x a i).map .avar
 | .pl (.var i)=>.or (cV (λe=>CE U e _) e λv j0_=>(z6 U v i).map .pl)<|Oy e λx j0_ a j1_=>(u5 U x a i).map .apl
 | .pop (.var i)=>CB e λo m ap as pos=>n0 (λas=>CE U (.Call (.Attribute o m ap) as [] pos) _) as (((Ck.dec (m = ("pop" :Str)/\(ap.endLine == pos.line) = true)).and (Ih U o i)).map Ob)
 | .tin i (.var j)=>o5 (λe=>CE U e _) e λl os es pos=>cV (λl=>CE U (.Compare l os es pos) _) l λx px=>n1 (λos=>CE U (.Compare (.Name x px) os es pos) _) os λop=>n1 (λes=>CE U (.Compare (.Name x px) [op] es pos) _) es λo=>dw (λo=>CE U (.Compare (.Name x px) [op] [o] pos) _) o λo a ap=>cV (λo=>CE U (.Compare (.Name x px) [op] [.Attribute o a ap] pos) _) o λs j0_=>((Ck.dec<|op = .NotIn).and<|(z6 U x j).and<|u5 U s a i).map N9
 | .tget i (.var j)=>hM (λe=>CE U e _) e λl k pos=>dw (λl=>CE U (.Subscript l k pos) _) l λo a ap=>cV (λo=>CE U (.Subscript (.Attribute o a ap) k pos) _) o λs p=>cV (λk=>CE U (.Subscript (.Attribute (.Name s p) a ap) k pos) _) k λx j0_=>((z6 U x j).and<|u5 U s a i).map λh=>.tget h.1 h.2
 | .tin _ _=>.no
 | .tget _ _=>.no
 | .mcall g as S=>CB e λo v ap es pos=>cV (λo=>CE U (.Call (.Attribute o v ap) es [] pos) _) o λx j0_=>((Ck.ofB kK).and ((Ck.dec (as = U.as/\(tb.m0<=g/\kf g = U.k/\tb.rb[g - tb.m0]? = some [])/\x = U.sn/\(x == ("__debug__" :Str)) = false/\U.ats.isEmpty = false/\(ap.endLine == pos.line) = true/\es.length<=28)).and (jy f U S es))).map GH
 | .gl k=>cV (λe=>CE U e _) e λv j0_=>((qt U v).and<|.dec<|tb.gl[k]? = some v).map λh=>.gl h.1 h.2
 | .tup S=>mY (λe=>CE U e _) e λes j0_ j1_=>((jy f U S es).and<|.dec<|S.length<=1000).map λh=>.tup h.1 h.2
 | .list S=>NW (λe=>CE U e _) e λes j0_=>((jy f U S es).and<|.dec<|S.length<=1000).map λh=>.list h.1 h.2
 | .op2 o a b=>K0 (λe=>CE U e _) e λea op eb j0_=>((Ck.dec<|op=FQ o).and<|(f U a ea).and<|f U b eb).map Oc
 | .neg a=>um (λe=>CE U e _) e λo ea j0_=>((Ck.dec<|o = .USub).and<|f U a ea).map N7.1
 | .not a=>um (λe=>CE U e _) e λo ea j0_=>((Ck.dec<|o = .Not).and<|f U a ea).map N7.2
 | .cmp o a b=>o5 (λe=>CE U e _) e λea os es pos=>n1 (λos=>CE U (.Compare ea os es pos) _) os λop=>n1 (λes=>CE U (.Compare ea [op] es pos) _) es λeb=>((Ck.dec<|op=iO o).and<|(f U a ea).and<|f U b eb).map Oi
 | .cmp2 o p a b u=>o5 (λe=>CE U e _) e λea os es pos=>n2 (λos=>CE U (.Compare ea os es pos) _) os λop op'=>n2 (λes=>CE U (.Compare ea [op,op'] es pos) _) es λeb eu=>((Ck.dec<|op=iO o/\op'=iO p).and<|(f U a ea).and<|(f U b eb).and<|f U u eu).map Lj
 | .bo j S=>F9 (λe=>CE U e _) e λo es j0_=>((Ck.dec<|o=Am j).and<|jy f U S es).map QB
 | .idx a i=>hM (λe=>CE U e _) e λea ei j0_=>((f U a ea).and<|f U i ei).map λh=>.idx h.1 h.2
 | .slc a l h=>hM (λe=>CE U e _) e λea sl j0_=>(match sl with
  | .Slice lo hi none _=>((f U a ea).and<|(O6 f U l lo).and<|O6 f U h hi).map λh=>.slc h.1 h.2.1 h.2.2
  | _=>.no)
 | .call g S=>qP e λv j0_ es j1_=>((Ck.ofB kK).and<|(qt U v).and<|(jy f U S es).and<|.dec<|es.length<=29/\g<tb.m0).map dQ
 | .callw g S x=>qP e λv j0_ es j1_=>(match es with
  | []=>.no
  | a::t=>((Ck.ofB kK).and<|(qt U v).and<|(jy f U S (a::t).dropLast).and<|(f U x<|(a::t).getLast<|List.cons_ne_nil a t).and<|.dec<|g<tb.m0).map<|GI<|List.cons_ne_nil a t)
 | .cnt i b=>CB e λo m ap as pos=>cV (λo=>CE U (.Call (.Attribute o m ap) as [] pos) _) o λx p=>n1 (λas=>CE U (.Call (.Attribute (.Name x p) m ap) as [] pos) _) as λa=>fR (λa=>CE U (.Call (.Attribute (.Name x p) m ap) [a] [] pos) _) a λk j0_ j1_=>(match k with
  | .bool b'=>((Ck.dec (m = ("count" :Str)/\(ap.endLine == pos.line) = true/\b' = b)).and (z6 U x i)).map Oh
  | _=>.no)
 | .disp ks S=>BK (λe=>CE U e _) e λkes vals j0_=>((O5 kes ks).and<|(jy f U S vals).and<|(Ck.dec (∀k∈ks,PyData.strOk k=true/\k.cps.size<=Sz)).and<|.dec<|ks.Nodup/\ks.length=S.length/\(ks≠ []/\ks.length<=15)).map Lh
 | .isx i yes no=>qP e λv p as pos=>n2 (λas=>CE U (.Call (.Name v p) as [] pos) _) as λex ec=>cV (λex=>CE U (.Call (.Name v p) [ex,ec] [] pos) _) ex λx p1=>.or (cV (λec=>CE U (.Call (.Name v p) [.Name x p1,ec] [] pos) _) ec λcn j0_=>((Ck.dec (v = ("isinstance" :Str)/\tb.sub.lookup cn = some (yes,no))).and ((qt U v).and ((z6 U x i).and (qt U cn)))).map Of) (mY (λec=>CE U (.Call (.Name v p) [.Name x p1,ec] [] pos) _) ec λes j0_ j1_=>((Ck.dec (v = ("isinstance" :Str)/\(FU es).length<=1000/\tb.sbt.lookup (FU es) = some (yes,no))).and ((qt U v).and ((z6 U x i).and (O4 U es (FU es))))).map Lc)
 | .bi (.isi t) [a]=>qP e λv p as pos=>n2 (λas=>CE U (.Call (.Name v p) as [] pos) _) as λea eu=>cV (λeu=>CE U (.Call (.Name v p) [ea,eu] [] pos) _) eu λu j0_=>((Ck.dec (v = ("isinstance" :Str))).and ((Ck.dec (u = (fL t:Str))).and ((qt U v).and ((qt U u).and (f U a ea))))).map Og
 | .bi b [a]=>qP e λv p as pos=>n1 (λas=>CE U (.Call (.Name v p) as [] pos) _) as λea=>((Ck.dec<|b.one=true).and<|(Ck.dec<|v=gN b).and<|(qt U v).and<|f U a ea).map Oj
 | .bi .dzip S=>qP e λv p as pos=>n1 (λas=>CE U (.Call (.Name v p) as [] pos) _) as λc=>iV (λc=>CE U (.Call (.Name v p) [c] [] pos) _) c λu bs pos'=>cV (λu=>CE U (.Call (.Name v p) [.Call u bs [] pos'] [] pos) _) u λu p'=>n2 (λbs=>CE U (.Call (.Name v p) [.Call (.Name u p') bs [] pos'] [] pos) _) bs λa b=>(((Ck.dec (v = ("dict" :Str)/\u = ("zip" :Str))).and ((qt U v).and (qt U u))).and (jy f U S [a,b])).map λh=>.bx (Lg h.1) h.2
 | .bi .dict0 []=>BK (λe=>CE U e _) e λks O dp=>n0 (λks=>CE U (.Dict ks O dp) _) ks<|n0 (λO=>CE U (.Dict [] O dp) _) O ⟨true,λj0_=>.bx .dict0 .nil⟩
 | .bi _ _=>.no
 | .comp elt t it src conds=>(match e with
  | .ListComp ee [⟨g,iter,gQ,0⟩] scope _=>((w2 g t).ck.and<|(Ck.dec<|it.pairs=true->t.isTup=true).and<|(chkI f U it src iter).and<|(Ck.ofB<|z0 (scope:=scope) (U:=U) (O:=(w2 g t).O)).and<|(Ck.dec<|U.hi<=(w2 g t).i).and<|(f (gM scope U (w2 g t).O (w2 g t).i) elt ee).and<|jy f (gM scope U (w2 g t).O (w2 g t).i) conds gQ).map λ⟨h0,hz,h1,h2,h3,h4,h5⟩=>.comp h0 hz h1 h2 h3 h4 h5
  | _=>.no)
end
def j8(n:Nat) :(U:Sc)->(x:Ex)->(e:Expr)->Ck (CE U e x):=Nat.rec (λj0_ j1_ j2_=>.no) (λj0_ f=>Nv f) n
def Md(U:Sc) :(es:Sn)->(is:Sg)->Ck (ID U es is)
 | [],[]=>⟨true,λj0_=>.nil⟩
 | e::es,i::is=>cV (λe=>ID U (e::es) (i::is)) e λx j0_=>((z6 U x i).and<|Md U es is).map λh=>.cons h.1 h.2
 | _,_=>.no
def R5(U:Sc)(g:Expr)(t:ja) :Ck (TG U g t):=match t with
 | .one i=>cV (λg=>TG U g<|.one i) g λx j0_=>(z6 U x i).map .one
 | .tup is=>mY (λg=>TG U g<|.tup is) g λes j0_ j1_=>(Md U es is).map .tup
theorem GG{k k' msg:Str}(h:(k'=k/\k'∈tb.cl)/\U.isG k') :CS U (.Raise (some<|.Call (.Name k' np) [.Constant (.str msg) kk ap] [] cpos) none pos) (.raise k):=by obtain⟨⟨rfl,a⟩,b⟩:=h;exact .raise b a
theorem Ol{v:Expr}{e:Ex}(h:(m = ("append" :Str)/\(apos.endLine == pos.line) = true)/\PE U o i/\CE U v e) :CS U (.Expr (.Call (.Attribute o m apos) [v] [] pos) p') (.app (.var i) e):=by obtain⟨⟨rfl,a⟩,b,c⟩:=h;exact .app b c a
def QV(d:D)(e:Expr) :Ck (HV e d):=.or (fR (λe=>HV e d) e λk j0_ j1_=>.ofB λh=>.one<|kS (k:=k) (d:=d) h) (match d with
 | .tuple [d1,d2]=>mY (λe=>HV e _) e λes j0_ j1_=>n2 (λes=>HV (.Tuple es _ _) _) es λa b=>fR (λa=>HV (.Tuple [a,b] _ _) _) a λk j0_ j1_=>fR (λb=>HV (.Tuple [_,b] _ _) _) b λk' j0_ j1_=>((Ck.ofB λh=>kS (k:=k) (d:=d1) h).and<|.ofB λh=>kS (k:=k') (d:=d2) h).map λh=>.two h.1 h.2
 | _=>.no)
theorem QA{p rp hp:Pos}{e:Expr}{d:D}(h:(cn'=cn/\cs=tb.hb cn/\cn∈tb.hc/\(tb.hb cn).all tb.cl.contains=true)/\U.isG cn/\HV e d/\HS U G S) :HS U (.ExceptHandler (some<|.Name cn p) none [.Return (some e) rp] hp::G) ((cn',cs,d)::S):=by obtain⟨⟨rfl,rfl,a⟩,b,c,d⟩:=h;exact .cons b a c d
def RE(U:Sc) :(S:List (Str×Sd×D))->(G:List ExceptHandler)->Ck (HS U G S)
 | [],[]=>⟨true,λj0_=>.nil⟩
 | (cn',cs,x)::S,.ExceptHandler (some c) none [s] hp::G=>cV (λc=>HS U (.ExceptHandler (some c) none [s] hp::G) ((cn',cs,x)::S)) c λcn p=>F7 (λs=>HS U (.ExceptHandler (some<|.Name cn p) none [s] hp::G) ((cn',cs,x)::S)) s λe j0_=>((Ck.dec<|cn'=cn/\cs=tb.hb cn/\cn∈tb.hc/\(tb.hb cn).all tb.cl.contains=true).and<|(qt U cn).and<|(QV x e).and<|RE U S G).map QA
 | _,_=>.no
theorem N8(h:An U body xb/\HS U G S/\G.isEmpty=false) :CS U (.Try body G [] [] pos) (.tryx xb S):=.tryx h.1 h.2.1 λq=>by have:=h.2.2;rw[q]at this;exact Bool.noConfusion this
theorem La{x x' cn v:Str}{p hp pos p1 p2 p3 p4 pt rp:Pos}{kk kt f i:Nat}(h:(∃d,tb.fn[f]? = some d/\d.name=v)/\(x'=x/\yes=tb.hb cn/\(cn∈tb.hc/\(tb.hb cn).all tb.cl.contains=true)/\f<tb.m0/\U.names.lookup x=some .local)/\U.isV x i/\U.isG cn/\U.isG v/\An U body xb) :
  CS U (.Try body [.ExceptHandler (some<|.Name cn p) (some x) [.Return (some<|.Tuple [.Constant (.bool false) kk p1,.Call (.Name v p2) [.Name x' p3] [] p4] kt pt) rp] hp] [] [] pos) (.tryw xb yes i f):=by
 obtain⟨⟨d,hd,rfl⟩,⟨rfl,rfl,h1,h2,h3⟩,h4,h5,h6,h7⟩:=h;exact .tryw h4 h3 h5 h1 ⟨hd,h2⟩ h6 h7
def O2(k:Nat)(v:Str) :Bool:=match tb.cr k with
 | some c=>decide<|c.name=v
 | none=>false
theorem H7{k:Nat}{v:Str}(h:O2 k v=true) :∃c,tb.cr k=some c/\c.name=v:=by unfold O2 at h;cases q:tb.cr k with
 | none=>have h:=q▸h;cases h
 | some d=>rw[q]at h;exact⟨d,rfl,aF h⟩
theorem Od{as:Sg}{v x:Str}{p np cpos pos:Pos}(h:((∃c,tb.cr (kf f) = some c/\c.name = v)/\ ∃d,tb.fn[f]? = some d/\d.name = ("__init__" :Str))/\(f = mi (kf f)/\kf f < 2/\as = c9 U/\U.ats.isEmpty = true/\U.names.lookup x = some .local/\U.vars.lookup x = none/\(x == ("__debug__" :Str)) = false/\args.isEmpty = false)/\U.isG v/\Em U args S/\An (k9 U (kf f) x) rest body) :
  An U (.Assign [.Name x p] (.Call (.Name v np) args [] cpos) pos::rest) [.new f as S body]:=by
 obtain⟨⟨⟨c,h1,rfl⟩,h2⟩,⟨hf,hk,rfl,h3,h4,h5,h6,h7⟩,h8,h9,h10⟩:=h;generalize kf f=k at *;subst hf;exact .new ⟨h1,hk⟩ h8 ⟨List.isEmpty_iff.mp h3,h4,h5,h6⟩ h9 ⟨λq=>by rw[q]at h7;exact Bool.noConfusion h7,h2⟩ h10
theorem Qy(h:(m = ("reverse" :Str)/\(apos.endLine == pos.line) = true)/\PE U o i) :CS U (.Expr (.Call (.Attribute o m apos) [] [] pos) p') (.rev (.var i)):=by obtain⟨⟨rfl,a⟩,b⟩:=h;exact .rev b a
theorem Oe{v x:Str}{as rb:Sg}{p ap pos p':Pos}(h:(∃d,tb.fn[f]? = some d/\d.name = v)/\(as = U.as/\rb = vI (tG f) U.as/\(tb.m0<=f/\kf f = U.k)/\x = U.sn/\(x == ("__debug__" :Str)) = false/\U.ats.isEmpty = false/\(ap.endLine == pos.line) = true/\args.length<=28)/\Em U args S) :CS U (.Expr (.Call (.Attribute (.Name x p) v ap) args [] pos) p') (.mst f as rb S):=by obtain⟨⟨d,hd,rfl⟩,⟨rfl,rfl,h1,h3,h4,h5,h6,h7⟩,h8⟩:=h;exact .mst ⟨hd,h1⟩ ⟨h3,h4,λq=>by rw[q]at h5;exact Bool.noConfusion h5⟩ h6 h8 h7
section
variable (g:(U:Sc)->(zs:List St)->(ss:List Stmt)->Ck (An U ss zs))
def Nu(U:Sc)(z:St)(s:Stmt) :Ck (CS U s z):=match z with
 | .asg (.one i) e=>y0 (λs=>CS U s _) s λt value pos=>.or (cV (λt=>CS U (.Assign [t] value pos) _) t λx j0_=>((z6 U x i).and<|j8 60 U e value).map λh=>.asg h.1 h.2)<|dw (λt=>CS U (.Assign [t] value pos) _) t λo a ap=>cV (λo=>CS U (.Assign [.Attribute o a ap] value pos) _) o λx j0_=>((u5 U x a i).and<|(j8 60 U e value).and<|.dec<|iI value=true).map λh=>.asgA h.1 h.2.1 h.2.2
 | .asg (.tup is) e=>y0 (λs=>CS U s _) s λt value pos=>mY (λt=>CS U (.Assign [t] value pos) _) t λes j0_ j1_=>((Md U es is).and<|(j8 60 U e value).and<|.dec<|iI value=true/\xP value=true).map λh=>.asgT h.1 h.2.1 h.2.2.1 h.2.2.2
 | .no=>⟨true,λj0_=>.no⟩
 | .setI (.var i) k e=>y0 (λs=>CS U s _) s λt value pos=>hM (λt=>CS U (.Assign [t] value pos) _) t λo idx j0_=>((Ih U o i).and<|(j8 60 U e value).and<|j8 60 U k idx).map λh=>.setI h.1 h.2.1 h.2.2
 | .app (.var i) e=>F8 (λs=>CS U s _) s λc pos'=>iV (λc=>CS U (.Expr c pos') _) c λa as pos=>dw (λa=>CS U (.Expr (.Call a as [] pos) pos') _) a λo m apos=>n1 (λas=>CS U (.Expr (.Call (.Attribute o m apos) as [] pos) pos') _) as λv=>((Ck.dec (m = ("append" :Str)/\(apos.endLine == pos.line) = true)).and ((Ih U o i).and (j8 60 U e v))).map Ol
 | .tab0 i=>y0 (λs=>CS U s _) s λt value pos=>dw (λt=>CS U (.Assign [t] value pos) _) t λo a ap=>cV (λo=>CS U (.Assign [.Attribute o a ap] value pos) _) o λx p=>BK (λv=>CS U (.Assign [.Attribute (.Name x p) a ap] v pos) _) value λks O dp=>n0 (λks=>CS U (.Assign [.Attribute (.Name x p) a ap] (.Dict ks O dp) pos) _) ks<|n0 (λO=>CS U (.Assign [.Attribute (.Name x p) a ap] (.Dict [] O dp) pos) _) O<|(u5 U x a i).map .tab0
 | .tset i (.var j) e=>y0 (λs=>CS U s _) s λt value pos=>hM (λt=>CS U (.Assign [t] value pos) _) t λo k p'=>dw (λo=>CS U (.Assign [.Subscript o k p'] value pos) _) o λo a ap=>cV (λo=>CS U (.Assign [.Subscript (.Attribute o a ap) k p'] value pos) _) o λx p=>cV (λk=>CS U (.Assign [.Subscript (.Attribute (.Name x p) a ap) k p'] value pos) _) k λz j0_=>((u5 U x a i).and<|(z6 U z j).and<|j8 60 U e value).map λh=>.tset h.1 h.2.1 h.2.2
 | .tset _ _ _=>.no
 | .exp e=>F8 (λs=>CS U s _) s λv j0_=>((j8 60 U e v).and<|.dec<|iI v=true).map λh=>.exp h.1 h.2
 | .new _ _ _ _=>.no
 | .rev (.var i)=>F8 (λs=>CS U s _) s λc pos'=>iV (λc=>CS U (.Expr c pos') _) c λa as pos=>dw (λa=>CS U (.Expr (.Call a as [] pos) pos') _) a λo m apos=>n0 (λas=>CS U (.Expr (.Call (.Attribute o m apos) as [] pos) pos') _) as (((Ck.dec (m = ("reverse" :Str)/\(apos.endLine == pos.line) = true)).and (Ih U o i)).map Qy)
 | .mst f as rb S=>F8 (λs=>CS U s _) s λc pos'=>iV (λc=>CS U (.Expr c pos') _) c λa es pos=>dw (λa=>CS U (.Expr (.Call a es [] pos) pos') _) a λo v ap=>cV (λo=>CS U (.Expr (.Call (.Attribute o v ap) es [] pos) pos') _) o λx j0_=>((Ck.ofB kK).and ((Ck.dec (as = U.as/\rb = vI (tG f) U.as/\(tb.m0<=f/\kf f = U.k)/\x = U.sn/\(x == ("__debug__" :Str)) = false/\U.ats.isEmpty = false/\(ap.endLine == pos.line) = true/\es.length<=28)).and (jy (j8 60) U S es))).map Oe
 | .iff t a b=>.or (RZ (λs=>CS U s _) s λet sa sb j0_=>((j8 60 U t et).and<|(g U a sa).and<|g U b sb).map λh=>.iff h.1 h.2.1 h.2.2) (match a,b with
  | [.ret x],[.ret y]=>F7 (λs=>CS U s _) s λv pos=>KZ (λv=>CS U (.Return (some v) pos) _) v λet ea eb j0_=>((j8 60 U t et).and<|(j8 60 U x ea).and<|j8 60 U y eb).map λh=>.retI h.1 h.2.1 h.2.2
  | _,_=>.no)
 | .ret e=>F7 (λs=>CS U s _) s λv j0_=>(j8 60 U e v).map .ret
 | .for_ t it src body SO=>Qr (λs=>CS U s _) s λu iter sb j0_=>((R5 U u t).and<|(Ck.dec<|it.pairs=true->t.isTup=true).and<|(chkI (j8 60) U it src iter).and<|g U body sb).map λh=>.for1 h.1 h.2.1 h.2.2.1 h.2.2.2
 | .whl t body SO=>Qo (λs=>CS U s _) s λet sb j0_=>((j8 60 U t et).and<|g U body sb).map λh=>.whl h.1 h.2
 | .raise k=>Qq (λs=>CS U s _) s λc pos=>iV (λc=>CS U (.Raise (some c) none pos) _) c λu as cp=>cV (λu=>CS U (.Raise (some<|.Call u as [] cp) none pos) _) u λk' np=>n1 (λas=>CS U (.Raise (some<|.Call (.Name k' np) as [] cp) none pos) _) as λa=>fR (λa=>CS U (.Raise (some<|.Call (.Name k' np) [a] [] cp) none pos) _) a λm kk ap=>(match m with
  | .str _=>((Ck.dec<|k'=k/\k'∈tb.cl).and<|qt U k').map GG
  | _=>.no)
 | .tryx xb S=>NV (λs=>CS U s _) s λbody G j0_=>((g U xb body).and<|(RE U S G).and<|.dec<|G.isEmpty=false).map N8
 | .tryw xb yes i f=>NV (λs=>CS U s _) s λbody G pos=>n1 (λG=>CS U (.Try body G [] [] pos) _) G λh=>(match h with
  | .ExceptHandler (some c) (some x) [st] hp=>cV (λc=>CS U (.Try body [.ExceptHandler (some c) (some x) [st] hp] [] [] pos) _) c λcn p=>F7 (λst=>CS U (.Try body [.ExceptHandler (some<|.Name cn p) (some x) [st] hp] [] [] pos) _) st λv rp=>mY (λv=>CS U (.Try body [.ExceptHandler (some<|.Name cn p) (some x) [.Return (some v) rp] hp] [] [] pos) _) v λes kt pt=>
   n2 (λes=>CS U (.Try body [.ExceptHandler (some<|.Name cn p) (some x) [.Return (some<|.Tuple es kt pt) rp] hp] [] [] pos) _) es λa b=>fR (λa=>CS U (.Try body [.ExceptHandler (some<|.Name cn p) (some x) [.Return (some<|.Tuple [a,b] kt pt) rp] hp] [] [] pos) _) a λk kk p1=>(match k with
   | .bool false=>iV (λb=>CS U (.Try body [.ExceptHandler (some<|.Name cn p) (some x) [.Return (some<|.Tuple [.Constant (.bool false) kk p1,b] kt pt) rp] hp] [] [] pos) _) b λu as p4=>cV (λu=>CS U (.Try body [.ExceptHandler (some<|.Name cn p) (some x) [.Return (some<|.Tuple [.Constant (.bool false) kk p1,.Call u as [] p4] kt pt) rp] hp] [] [] pos) _) u λw p2=>
    n1 (λas=>CS U (.Try body [.ExceptHandler (some<|.Name cn p) (some x) [.Return (some<|.Tuple [.Constant (.bool false) kk p1,.Call (.Name w p2) as [] p4] kt pt) rp] hp] [] [] pos) _) as λy=>cV (λy=>CS U (.Try body [.ExceptHandler (some<|.Name cn p) (some x) [.Return (some<|.Tuple [.Constant (.bool false) kk p1,.Call (.Name w p2) [y] [] p4] kt pt) rp] hp] [] [] pos) _) y λx' j0_=>
     ((Ck.ofB kK).and<|(Ck.dec<|x'=x/\yes=tb.hb cn/\(cn∈tb.hc/\(tb.hb cn).all tb.cl.contains=true)/\f<tb.m0/\U.names.lookup x=some .local).and<|(z6 U x i).and<|(qt U cn).and<|(qt U w).and<|g U xb body).map La
   | _=>.no)
  | _=>.no)
def JO:(U:Sc)->(zs:List St)->(ss:List Stmt)->Ck (An U ss zs)
 | _,[],[]=>⟨true,λj0_=>.nil⟩
 | U,[.new f as S body],s :: rest=>y0 (λs=>An U (s :: rest) _) s λt u pos=>cV (λt=>An U (.Assign [t] u pos :: rest) _) t λx p=>iV (λu=>An U (.Assign [.Name x p] u pos :: rest) _) u λu args cp=>cV (λu=>An U (.Assign [.Name x p] (.Call u args [] cp) pos :: rest) _) u λv j0_=>(((Ck.ofB H7).and (Ck.ofB kK)).and ((Ck.dec (f = mi (kf f)/\kf f < 2/\as = c9 U/\U.ats.isEmpty = true/\U.names.lookup x = some .local/\U.vars.lookup x = none/\(x == ("__debug__" :Str)) = false/\args.isEmpty = false)).and ((qt U v).and ((jy (j8 60) U S args).and (g (k9 U (kf f) x) body rest))))).map Od
 | U,z::zs,s::ss=>((Nu g U z s).and<|g U zs ss).map λh=>.cons h.1 h.2
 | _,_,_=>.no
end
def Jo(n:Nat) :(U:Sc)->(zs:List St)->(ss:List Stmt)->Ck (An U ss zs):=Nat.rec (λj0_ j1_ j2_=>.no) (λj0_ f=>JO f) n
noncomputable abbrev J2:Str:="self"
def Jr(fn:Fn)(ns:Sd) :Sd:=c5 fn J2++ns.take (fn.np - fn.na)
def bL:List DefRec->List Fn->List Sd->List ((Nat->Value)->Str->Value->Value->Value->Sem (List<|Str×Value))
 | d::V,fn::fns,ns::nss=>(λg qual pm code doc=>bindArgs (methDef d.name qual d.params d.body d.scope pm code doc) ⟨(List.range (Jr fn ns).length).map g,[]⟩)::bL V fns nss
 | _,_,_=>[]
def bR:List DefRec->List Fn->List Sd->List ((Nat->Value)->Str->Value->Value->Value->Sem (List<|Str×Value))
 | _::V,fn::fns,ns::nss=>(λg j0_ j1_ j2_ j3_=>pure<|(Jr fn ns).zip<|(List.range (Jr fn ns).length).map g)::bR V fns nss
 | _,_,_=>[]
theorem map_range(O:Si) :(List.range O.length).map (λi=>(O[i]?).getD .none)=O:=by induction O with
 | nil=>rfl
 | cons v O ih=>exact Er List.range_succ_eq_map<|Er ay<|Er gx<|congrArg (v :: ·) ih
end Mv
end
section
namespace Mv
open PySem PySem.W PyProof.Rows
def LB(f:Nat)(d:DefRec)(fn:Fn)(names:Sd) :Bool:=
 decide ((names++c5 fn J2).Nodup/\fn.np<=fn.na+names.length/\fn.na<=fn.np/\(fn.na=if f<tb.m0 then 0 else tb.an.length)/\fn.rb=tG f/\(∀x∈names,d.scope.names.lookup x=some .local\/d.scope.names.lookup x=some .cell)/\ ∀x∈c5 fn J2,d.scope.names.lookup x=some .local)&&(Jo 300 (ua (kf f) d fn names J2) fn.body d.body).val &&
 decide (d.scope.isCoroutine=false/\d.scope.isGenerator=false/\d.scope.kind = .function/\ ∀x∈d.scope.names,x.2≠ .free)
theorem G6{d:DefRec}(h:LB f d fn names=true)(hb:∀g qual pm code doc,bindArgs (methDef d.name qual d.params d.body d.scope pm code doc) ⟨(List.range (Jr fn names).length).map g,[]⟩=pure ((Jr fn names).zip<|(List.range (Jr fn names).length).map g)) :IK f d fn names J2:=by
 refine cX λSD g1=>?_;obtain⟨h,h3⟩:=ao.mp h;refine cX λG1 g2=>?_;obtain⟨h1,h2⟩:=ao.mp h;have Q:=aF h1;have Z:=aF h3;refine g2 ?_;refine g1 ?_;refine⟨Q.1,Q.2.1,Q.2.2.1,Q.2.2.2.1,Q.2.2.2.2.1,Q.2.2.2.2.2.1,Q.2.2.2.2.2.2,λJ O hJ hv qual pm code doc=>?_,(Jo 300 _ _ _).ok h2,Z.1,Z.2.1,Z.2.2.1,Z.2.2.2⟩;have e:(nG J++O).length=(Jr fn names).length:=by
  unfold Jr c5;refine Er aj<|Er aj<|Er eY ?_;rcases J with _ | j
  .refine Er (if_pos (show fn.na=0 from hJ.symm)) ?_;show 0+O.length=0+_;omega
  .refine Er (if_neg (show ¬fn.na=0 from λq=>absurd (show 8=0 from hJ.trans q) (by decide))) ?_;show 1+O.length=1+_;omega
 have q:=hb (λi=>((nG J++O)[i]?).getD .none) qual pm code doc;rw[<- e,map_range]at q;exact q
def CN:Nat->List DefRec->List Fn->List Sd->Bool
 | f,d::V,fn::fns,ns::nss=>LB f d fn ns&&CN (f+1) V fns nss
 | _,_,[],_=>true
 | _,_,_,_=>false
theorem He:∀{k:Nat}{V:List DefRec}{fns:List Fn}{nss:List Sd},CN k V fns nss=true->bL V fns nss=bR V fns nss-> ∀f fn d,fns[f]? = some fn->V[f]? = some d-> ∃names,IK (k+f) d fn names J2:=by intro k V fns;induction fns generalizing V k with
 | nil=>intro nss _ _ f fn d h1;exact bz h1
 | cons fn fns ih=>intro nss h e f fn' d h1 h2;cases V with
  | nil=>exact bz h2
  | cons d' V=>cases nss with
   | nil=>exact Bool.noConfusion h
   | cons ns nss=>have h:=ao.mp (show(LB k d' fn ns&&CN (k+1) V fns nss)=true from h);cases f with
    | zero=>exact Er (bO h1).symm<|Er (bO h2).symm<|⟨ns,G6 h.1 λg qual pm code doc=>congrFun (congrFun (congrFun (congrFun (congrFun (List.cons.inj e).1 g) qual) pm) code) doc⟩
    | succ f=>have q:=ih h.2 (List.cons.inj e).2 f fn' d h1 h2;rw[d4]at q;exact q
def yd(p:Program)(loose:Sd) :Bool:=
 mC.all λx=>!startupNames.contains x && !loose.contains x && !((recsOf p).map (·.name)).contains x && !((litsOf p).map (·.1)).contains x && !((clssOf p loose).map (·.name)).contains x
theorem sw(h:(fastLookup "object" name).isSome = true) :∃y,typeLookup (.type "object") name = pure y:=by rw [typeLookup_type]; refine Er lr ?_;cases q:fastLookup "object" name with
 | none=>have h:=q▸h;cases h
 | some r=>exact⟨r,rfl⟩
set_option backward.match.sparseCases true in
def QS:Bool:=
 (tb.an.all λa=>match fastLookup "object" a with | some none=>true | _=>false) &&
 ((tb.fn.drop 44).all λd=>(fastLookup "object" d.name).isSome && !tb.an.contains d.name) && decide ((recsOf Hq.view).length = 44/\(MZ (Jn (ka 0))).length = 7)
variable [hp:Hp]
section
variable {loose:Sd}{mean:ExcName->So}
theorem Gd.of_top(T:Top Hq.view loose mean mg mb B)(TE:TopE Hq.view loose mg B)(hm:∀k,(plainsOf Hq.view loose).find? (λc=>c.name==ka k)=tb.cr k)(hcB:QS=true)(hf:yd Hq.view loose=true)
  (hcl:∀k∈Lq.cls, ∃C Bb newId initId bm,OwnClsQ k C bm newId mg B/\ExcBaseFacts Bb newId initId bm)
  (hask:∀c∈Lq.hcs, ∃SA,mg c=some SA/\ ∀k∈Lq.cls, ∀C,mg k=some (.ref C)->vj B C SA ((tb.hb c).contains k))
  (hai:∀c yes no,tb.sub.lookup c=some (yes,no)-> ∃SA,(mg c=some SA\/(mg c=none/\mb c=some SA))/\ ∀k C b,mg k=some (.ref C)->(b=true/\k∈yes)\/(b=false/\k∈no)->lM B C SA b)
  (hat:∀cs yes no,tb.sbt.lookup cs=some (yes,no)-> ∃Vs,ju mg mb cs Vs/\ ∀k C b,mg k=some (.ref C)->(b=true/\k∈yes)\/(b=false/\k∈no)->lL B C Vs b)
  (hgl:∀(k:Nat)(x:Str)(d:D),Lq.gls[k]? = some x->glob[k]? = some d-> ∃v,mg x=some v/\ ∀(h':Heap)(Z:Ss),(∀a o,B.get? a=some o->h'.get? a=some o)->(∀a o,B.get? a=some o->Z a)->dW h' Z v d) :Gd glob where
 g:=T.g
 b:=T.b
 nl:=T.nolimit
 bt:=T.builtins
 fn:=λf d hf0 hd=>by have hd:(recsOf Hq.view++_)[f]? = some d:=hd;rw[b9 (by refine Er (aF (ao.mp hcB).2).1 ?_;exact hf0)]at hd;exact T.fn d<|aN hd
 pl:=λk c hc=>by
  refine cX λG1 g2=>?_;have z:=ao.mp (ao.mp hcB).1;have ln:=aF (ao.mp hcB).2;refine m5 (TE c<|List.mem_of_find?_eq_some<|(hm k).trans hc) λC N mN Q=>?_;have hC:=Q.1;have P:=Q.2;refine g2 ?_;refine⟨C,N,mN,hC,P.ofCmp,λa ha=>nq<|aB.mp z.1 a ha,λf d hf0 hd=>?_⟩;have hk:d∈tb.fn.drop 44:=by exact aN (i:=f - 44)<|Er (List.getElem?_drop)<|Er (cw (show 44<=f from hf0.1)) hd
  obtain⟨q1,q2⟩:=ao.mp<|aB.mp z.2 d hk;refine⟨?_,λq=>?_,sw q1⟩
  .have hd:(recsOf Hq.view++(MZ (Jn<|ka 0)++MZ (Jn<|ka 1)))[f]? = some d:=hd;have hin:d∈MZ (some c):=by
    rw[cQ (by refine Er ln.1 ?_;exact hf0.1),ln.1]at hd;have hkf:=hf0.2;unfold kf at hkf;by_cases q:f<51
    .rw[if_pos (show f<tb.m1 from q)]at hkf;subst hkf;rw[b9 (by rw[ln.2];exact(Nat.sub_lt_iff_lt_add hf0.1).mpr q)]at hd;have hc:Jn (ka 0)=some c:=hc;rw[hc]at hd;exact aN hd
    .rw[if_neg (show ¬f<tb.m1 from q)]at hkf;subst hkf;rw[cQ (by rw[ln.2];exact Nat.le_sub_of_add_le<|bM.mp q)]at hd;have hc:Jn (ka 1)=some c:=hc;rw[hc]at hd;exact aN hd
   refine aR (aH.mp hin) λm u=>?_;refine Er u.2.symm ?_;exact u.1
  .rw[bJ.mpr q]at q2;exact Bool.noConfusion q2
 gl:=hgl
 bi:=λx hx=>by simp only[yd,aB,az,fJ,List.contains_eq_mem,decide_eq_false_iff_not]at hf;refine cX λSD g1=>?_;obtain⟨⟨⟨⟨h1,h2⟩,h3⟩,h4⟩,h5⟩:=hf x hx;exact g1<|T.free x h1 h2 h3 h4 h5
 cl:=hcl
 ask:=hask
 askI:=hai
 askT:=hat
theorem const_int{x:Str}(T:Top Hq.view loose mean mg mb B)(hv:valOf Hq.view x=some (.int i)) :∃v,mg x=some v/\ ∀(h':Heap)(Z:Ss),(∀a o,B.get? a=some o->h'.get? a=some o)->(∀a o,B.get? a=some o->Z a)->dW h' Z v (.int i):=by refine aR (T.const x _ hv) λv q=>?_;refine⟨v,q.1,λh' Z j0_ j1_=>?_⟩;cases q.2 B with
 | int i t=>exact .int i t
theorem y4{lv:List (Str×WData)}{x:Str}(SA:LooseAre lv mg B)(hm:(x,WData.int i)∈lv) :∃v,mg x=some v/\ ∀(h':Heap)(Z:Ss),(∀a o,B.get? a=some o->h'.get? a=some o)->(∀a o,B.get? a=some o->Z a)->dW h' Z v (.int i):=by obtain⟨v,hg,hr⟩:=SA.val _ hm;refine⟨v,hg,λh' Z j0_ j1_=>?_⟩;cases hr with
 | int i t=>exact .int i t
end
theorem uB{P:Params} :∀{O:Si}{S:Sm},WellAll P h O (ofPys<|S.map .int)->RepAll h Z O (S.map .int):=by intro O S;induction S generalizing O with
 | nil=>exact @λW=>by cases W;exact .nil
 | cons x S ih=>intro W;cases W with
  | cons a b=>cases a with
   | int _ t=>exact .cons (.int _ t)<|ih b
theorem GA{loose:Sd}{mean mean':ExcName->So}{aM:Shared}{P:Pr}{nss:List Sd}{f n:Nat}{d:DefRec}{fa l:Addr}{S:Sm}{outs:List Slot}{c:ClaimW}{cl:Str->Option Addr}{args:List WData}
  (hh:B=aM.heap) (hs0:Hp.s0=aM) (T:Top Hq.view loose mean mg mb B) (TE:TopE Hq.view loose mg B) (hm:∀k,(plainsOf Hq.view loose).find? (λc=>c.name==ka k)=tb.cr k) (hcB:QS=true) (hall:CN 0 tb.fn P.fns nss=true) (hbd:bL tb.fn P.fns nss=bR tb.fn P.fns nss) (hfree:yd Hq.view loose=true)
  (hcl:∀k∈Lq.cls, ∃C Bb newId initId bm,OwnClsQ k C bm newId mg B/\ExcBaseFacts Bb newId initId bm)
  (hask:∀c∈Lq.hcs, ∃SA,mg c=some SA/\ ∀k∈Lq.cls, ∀C,mg k=some (.ref C)->vj B C SA ((tb.hb c).contains k))
  (hai:∀c yes no,tb.sub.lookup c=some (yes,no)-> ∃SA,(mg c=some SA\/(mg c=none/\mb c=some SA))/\ ∀k C b,mg k=some (.ref C)->(b=true/\k∈yes)\/(b=false/\k∈no)->lM B C SA b)
  (hat:∀cs yes no,tb.sbt.lookup cs=some (yes,no)-> ∃Vs,ju mg mb cs Vs/\ ∀k C b,mg k=some (.ref C)->(b=true/\k∈yes)\/(b=false/\k∈no)->lL B C Vs b)
  (hgl:∀(k:Nat)(x:Str)(d:D),Lq.gls[k]? = some x->P.glob[k]? = some d-> ∃v,mg x=some v/\ ∀(h':Heap)(Z:Ss),(∀a o,B.get? a=some o->h'.get? a=some o)->(∀a o,B.get? a=some o->Z a)->dW h' Z v d)
  (hf44:f<44) (hd:(recsOf Hq.view)[f]? = some d) (hfa:mg d.name=some (.ref fa)) (W:Well w.params aM.heap (.ref l) (ofPy<|.list<|S.map .int)) (hlen:S.length<=Sz) (hn:n<=340) (hgen:aM.gens = #[])
  (hr:∀cls,c.raises args cls=false) (hp:c.post args (.bool true) args=true)
  (h:cF P n f [.fz<|.list<|S.map .int]=some (.ok<|.fz<|.bool true,outs)) :
  codeAny (model prog w) callerA (.call (.ref fa) ⟨[.ref l],[]⟩) (GoodWG c cl mean' args aM) aM:=by
 have hb:∀a o,B.get? a=some o->aM.heap.get? a=some o:=λa o e=>hh▸e;have hcm:claimMargin=300:=by decide
 have gd:=Gd.of_top T TE hm hcB hfree hcl hask hai hat hgl;have hd':tb.fn[f]? = some d:=by exact Er (b9 (by refine Er (aF (ao.mp hcB).2).1 ?_;exact hf44)) hd
 refine cX λG2 g1=>?_;obtain⟨a,o,pm,code,doc,hm',ho,hdat,hcr⟩:=gd.fn f d hf44 hd';have hm':=hfa▸hm';cases hm';refine g1 ?_;have R:dW aM.heap (λa=> ∃o,aM.heap.get? a=some o) (.ref l) (.list<|S.map .int):=by cases W with
  | @list _ O ws hget hall=>exact .list ⟨_,hget⟩ hget (by rw[(uB (Z:=λj0_=>True) hall).length,ai];exact hlen)<|uB hall
 have y:gh aM (iA none []++(jJ ([]++[Value.ref l].map some) [.fz<|.list<|S.map .int]++[])):=⟨λa=> ∃o,aM.heap.get? a=some o,⟨aM.heap,aM.toks,by rw[hs0]⟩,hb,λa o e=>⟨o,hb a o e⟩,λj0_ z=>z,y3 ⟨_,rfl,R⟩,.cons (λj0_ h=>nomatch h) .nil,y3 λj0_ h=>h.elim⟩
 refine n9 ((w6 gd (λf fn d h1 h2=>let ⟨ns,q⟩:=He hall hbd f fn d h1 h2;⟨ns,J2,aX f▸q⟩) n) f _ _ _ h d hd' none fa (⟨⟨λj0_=>hf44,λj0_=>rfl⟩,(λj0_ j1_ j2_ q=>bz q),o,d.name,pm,code,doc,ho,hdat,hcr⟩) callerA [] [] [.ref l] aM ?_ ?_ rfl ⟨[],rfl,λj0_ h=>by exact(bc h).elim⟩ rfl rfl y) λr s' p=>?_
 .exact(Ln [claimMargin,n] (.w (.a (.a (.c 1) .x)<|.m 2 .y)<|.c 999) [(2,.w .y<|.c 340),Ge .x<|.c 300] rfl hn hcm)
 .exact(Ln [n] (.w (.a (.c 4)<|.m 10 .x)<|.c 4000) [(10,.w .x<|.c 340)] rfl hn)
 obtain⟨SM,_,_,_,R⟩:=p;cases R with
 | err nm a P q=>exact LL q
 | ok rv v q e y=>obtain rfl:=ky q;subst e;obtain⟨Z,y⟩:=y;obtain⟨u,eu,ru⟩:=y.ok _ aa;have base:=y.base;obtain⟨h',tk,rfl⟩:=y.sh;rw[hs0]at base |-;refine GoodW.toG ⟨.inl ⟨v,.bool true,[],rfl,hr,?_,hp,λj0_=>⟨List.nodup_nil,λa ha=>by exact(bc ha).elim⟩⟩,λa o e=>base a o<|hh▸e,rfl,hgen⟩;rw[bO eu];cases ru;exact .bool true
end Mv
end
section
namespace Mv
open PySem PySem.W PyProof.Rows
section
variable {prog:Program}{w:World}{A:Around}{E:Sr}{s:Shared}{K:Frag}{x D:Addr}{ox:Obj}
theorem zE{Q:So->Shared->Prop}(X:K.In s.heap)(I:InstAt s.heap x ox D none)(hga:findIn K (.ref D) "__getattribute__" = some (some (.builtin "BaseException.__getattribute__")))(hgt:findIn K (.ref D) "__getattr__" = some none)
  (hf:findObj K D none "__class__" = some (.bind (.builtin "getset_descriptor.__get__") (.builtin "object.__class__"))) (hmB:mroIn K D (.type "BaseException") = some true) (hmo:mroIn K D (.type "object") = some true)
  (h:Q (some (.ref D)) {s with toks:=s.toks + 1}) :wpAny (model prog w) A (getAttr? (.ref x) "__class__") Q E s:=by
 obtain⟨hh,g,d,t,os⟩:=s;have L0:=I.type (M:=model prog w);have L2:=looks_findIn (M:=model prog w) X hgt;have L3:=looks_find (M:=model prog w) X I hf;have L4:=looks_mroIn (M:=model prog w) X hmB;unfold getAttr? getAttrBy? getAttrBy;refine ae<|wpAny_mkText<|ae<|wpAny_attempt<|d6<|ae<|L0.at<|ae<|(looks_findIn (M:=model prog w) X hga).at ?_;dsimp only;refine Er (if_neg (by simp)) ?_;have f3:=(PySem.F.attrBase_ValueError).ga.bind<|.ref x
 repeat (any_goals (first | assumption | with_reducible refine Looks.at (by assumption) ?_ | wp_step))
 refine codeAny_call_builtin (PySem.F.attrBase_ValueError).ga.plain PySem.F.entry_bexc_ga ?_;have hk:builtinKind "BaseException.__getattribute__" = some .slot:=by decide +kernel
 have hsplit:splitId "BaseException.__getattribute__" = some ("BaseException","__getattribute__"):=by decide +kernel
 have ha:=PySem.F.args_bexc_ga (.ref x) (.str "__class__" t);simp only [checkBuiltinCall,hk,hsplit,iw,cK];refine ae ?_;unfold isInstance
 repeat (any_goals (first | assumption | with_reducible refine Looks.at (by assumption) ?_ | wp_step))
 refine class_get (s:=⟨hh,g,d,t+1,os⟩) (od:=none) X I hmo ?_
 repeat (any_goals (first | assumption | wp_step))
theorem DJ{K:Frag}{D:Addr}(h:(clsIn K D).isSome=true) :∃c d cd sl,K.lookup D=some ⟨c,d,.cls cd,sl⟩:=by delta clsIn at h;cases e:K.lookup D with
 | none=>have h:=e▸h;exact Bool.noConfusion h
 | some o=>obtain⟨c,d,dat,sl⟩:=o;cases dat <;> first | exact⟨_,_,_,_,rfl⟩ | exact Bool.noConfusion<|e▸h
theorem uy(hga:findIn K (.ref D) "__getattribute__" = some (some (.builtin "BaseException.__getattribute__")))(hgt:findIn K (.ref D) "__getattr__" = some none)
  (hf:findObj K D none "__class__" = some (.bind (.builtin "getset_descriptor.__get__") (.builtin "object.__class__"))) (hmB:mroIn K D (.type "BaseException") = some true) (hmo:mroIn K D (.type "object") = some true) (hcl:(clsIn K D).isSome = true) :
  KitX K (.ref x) (.ref D) (λh=> ∃ox,InstAt h x ox D none) where
 ty:=λ_ _ _ ⟨_,I⟩=>I.type
 it:=λj0_ j1_ X j2_=>by refine Hy (DJ hcl) λc d cd sl ho=>?_;intro A' Q' E' s' k q;unfold isType loadHead;exact ae<|wpAny_loadPart (k _ _<|X _ _ ho)<|au q
 ne:=λh tp dd its n sl X htp=>by refine Hy (DJ hcl) λc d cd sl ho=>?_;refine bK.mpr λq=>?_;have e:=Value.ref.inj<|cZ.mp q;subst e;have z:=(X _ _ ho).symm.trans htp;cases z
 ca:=λX ⟨_,I⟩ k=>zE X I hga hgt hf hmB hmo k
end
theorem Ad{K:Frag}{B:Heap}{D:Addr}{b:Bool}(X:K.In B)(hga:findIn K (.ref D) "__getattribute__" = some (some (.builtin "BaseException.__getattribute__")))(hgt:findIn K (.ref D) "__getattr__" = some none)
  (hf:findObj K D none "__class__" = some (.bind (.builtin "getset_descriptor.__get__") (.builtin "object.__class__"))) (hmB:mroIn K D (.type "BaseException") = some true) (hmo:mroIn K D (.type "object") = some true) (hcl:(clsIn K D).isSome = true)
  (h1:kitOne K (.ref D) SA=some b) :lM B D SA b:=by
 intro prog w A E s a o hB ha hc Q q;have I:InstAt s.heap a o D none:=⟨ha,hc.1,by obtain⟨_,_,O,hd⟩:=hc;obtain⟨c,o⟩:=o;cases hd;rfl,by refine Er hc.2.1 ?_;trivial⟩
 exact kia_one (uy hga hgt hf hmB hmo hcl) (X.keeps hB) ⟨o,I⟩ h1 (by intro z;cases z) q
theorem Ac{K:Frag}{B:Heap}{D:Addr}{b:Bool}(X:K.In B)(hga:findIn K (.ref D) "__getattribute__" = some (some (.builtin "BaseException.__getattribute__")))(hgt:findIn K (.ref D) "__getattr__" = some none)
  (hf:findObj K D none "__class__" = some (.bind (.builtin "getset_descriptor.__get__") (.builtin "object.__class__"))) (hmB:mroIn K D (.type "BaseException") = some true) (hmo:mroIn K D (.type "object") = some true) (hcl:(clsIn K D).isSome = true)
  (h1:kitAny K (.ref D) Vs=some b) :lL B D Vs b:=by
 intro prog w A E s a tp o hB ha hc ht Q q;have I:InstAt s.heap a o D none:=⟨ha,hc.1,by obtain⟨_,_,O,hd⟩:=hc;obtain⟨c,o⟩:=o;cases hd;rfl,by refine Er hc.2.1 ?_;trivial⟩
 exact kia_tup (uy hga hgt hf hmB hmo hcl) (X.keeps hB) ⟨o,I⟩ ht h1 (by intro z;cases z) q
def Pk(K:Frag)(SA:Value)(b:Bool)(g:So) :Bool:=match g with
 | some (.ref D)=>exmOne K (.ref D) SA==some b
 | _=>false
theorem Iy{K:Frag}{B:Heap}{b:Bool}{D:Addr}(X:K.In B)(h:Pk K SA b (some<|.ref D)=true) :vj B D SA b:=by
 intro prog w A E s a o hB ha hc Q q;have I:InstAt s.heap a o D none:=⟨ha,hc.1,by obtain⟨_,_,O,hd⟩:=hc;obtain⟨c,o⟩:=o;cases hd;rfl,by refine Er hc.2.1 ?_;trivial⟩
 exact exm_one (X.keeps hB) I.type (cZ.mp h) A Q E s (λj0_ j1_ e=>e) q
def gL(K:Frag)(x:Str) :So:=match K.lookup mainGlobals with
 | some ⟨_,_,.dict es _,_⟩=>nsFind es x
 | _=>none
theorem GY{K:Frag}{mg:Str->So}(X:K.In h)(g:h.Ns mainGlobals mg)(hk:(K.lookup mainGlobals).elim false (λo=>match o.data with | .dict _ _=>true | _=>false)=true)(x:Str) :mg x=gL K x:=by refine cX λSD g1=>?_;obtain⟨o,es',ep',ho,hd,_,hf⟩:=g;cases q:K.lookup mainGlobals with
 | none=>rw[q]at hk;exact Bool.noConfusion hk
 | some o'=>have:=X _ _ q;rw[this]at ho;obtain rfl:=bO ho;obtain⟨c,d,dt,sl⟩:=o';cases hd;refine g1 ?_;unfold gL;exact Er q<|(hf x).symm
def ON(K:Frag)(cls hcs:Sd)(hb:Str->Sd) :Bool:=hcs.all λc=>(gL K c).elim false λSA=>cls.all λk=>Pk K SA ((hb c).contains k)<|gL K k
theorem HE{K:Frag}{B:Heap}{mg:Str->So}{cls hcs:Sd}(X:K.In B)(hg:∀x,mg x=gL K x)(h:ON K cls hcs hb=true) :∀c∈hcs, ∃SA,mg c=some SA/\ ∀k∈cls, ∀C,mg k=some (.ref C)->vj B C SA ((hb c).contains k):=λc hc=>by have h:=aB.mp h c hc;cases q:gL K c with
 | none=>rw[q]at h;exact Bool.noConfusion h
 | some SA=>rw[q]at h;refine⟨SA,(hg c).trans q,λk hk C e=>Iy X ?_⟩;have:=aB.mp h k hk;rw[<- hg,e]at this;exact this
theorem vM{p:Program}{loose:Sd}{mg mb:Str->So}(T:Top p loose mean mg mb h){cls:Sd}(FB:ExcBaseFacts Bb nid iid bm)
  (hc:(cls.all λk=>(ownsOf p).any λo=>decide (o.name=k)&&decide (o.newId=nid)&&(o.bm==bm))=true) :∀k∈cls, ∃C Bb newId initId bm,OwnClsQ k C bm newId mg h/\ExcBaseFacts Bb newId initId bm:=λk hk=>by
 rw[aB]at hc;refine cX λSD g=>?_;obtain⟨o,ho,hq⟩:=ix.mp<|hc k hk;simp only[az,cC,cZ]at hq;obtain⟨⟨rfl,rfl⟩,rfl⟩:=hq;exact aR (T.own o ho) λC q=>g<|⟨C,_,_,_,_,q.1,FB⟩
noncomputable def Cq(r:Option Builtin.ObjectAttr.Found) :Bool:=match r with
 | some (.bind g a)=>decide (g = .builtin "getset_descriptor.__get__") && decide (a = .builtin "object.__class__")
 | _=>false
theorem qO(h:Cq r = true) :r = some (.bind (.builtin "getset_descriptor.__get__") (.builtin "object.__class__")):=by cases r with
 | none=>exact Bool.noConfusion h
 | some f=>cases f with
  | bind g a=>exact Er (aF (ao.mp h).1)<|Er (aF (ao.mp h).2) rfl
  | value v=>exact Bool.noConfusion h
  | missing=>exact Bool.noConfusion h
def qS(K:Frag)(D:Addr) :Bool:=
 (findIn K (.ref D) "__getattribute__" == some (some (.builtin "BaseException.__getattribute__"))) && (findIn K (.ref D) "__getattr__" == some none) && Cq (findObj K D none "__class__") && (mroIn K D (.type "BaseException") == some true) && (mroIn K D (.type "object") == some true) && (clsIn K D).isSome
def D5(K:Frag)(SA:Value)(b:Bool)(g:So) :Bool:=match g with
 | some (.ref D)=>qS K D&&(kitOne K (.ref D) SA==some b)
 | _=>false
def D3(K:Frag)(Vs:Si)(b:Bool)(g:So) :Bool:=match g with
 | some (.ref D)=>qS K D&&(kitAny K (.ref D) Vs==some b)
 | _=>false
theorem vc{K:Frag}{B:Heap}{b:Bool}{D:Addr}(X:K.In B)(h:D5 K SA b (some<|.ref D)=true) :lM B D SA b:=by have h:(qS K D&&(kitOne K (.ref D) SA==some b))=true:=h;simp only[qS,az,cZ]at h;refine cX λSD g=>?_;obtain⟨⟨⟨⟨⟨⟨h1,h2⟩,h3⟩,h4⟩,h5⟩,h6⟩,h7⟩:=h;exact g<|Ad X h1 h2 (qO h3) h4 h5 h6 h7
theorem vb{K:Frag}{B:Heap}{b:Bool}{D:Addr}(X:K.In B)(h:D3 K Vs b (some<|.ref D)=true) :lL B D Vs b:=by have h:(qS K D&&(kitAny K (.ref D) Vs==some b))=true:=h;simp only[qS,az,cZ]at h;refine cX λSD g=>?_;obtain⟨⟨⟨⟨⟨⟨h1,h2⟩,h3⟩,h4⟩,h5⟩,h6⟩,h7⟩:=h;exact g<|Ac X h1 h2 (qO h3) h4 h5 h6 h7
def LO(K:Frag)(SA:Value)(yes no:Sd) :Bool:=(yes.all λk=>D5 K SA true<|gL K k)&&no.all λk=>D5 K SA false<|gL K k
def LN(K:Frag)(Vs:Si)(yes no:Sd) :Bool:=(yes.all λk=>D3 K Vs true<|gL K k)&&no.all λk=>D3 K Vs false<|gL K k
section
variable {K:Frag}{B:Heap}{mg mb:Str->So}{SA:Value}{Vs:Si}{yes no:Sd}
theorem HD(X:K.In B)(hg:∀x,mg x=gL K x)(h:LO K SA yes no=true) :∀k C b,mg k=some (.ref C)->(b=true/\k∈yes)\/(b=false/\k∈no)->lM B C SA b:=by
 simp only[LO,az,aB]at h;intro k C b hk hm;have e:gL K k=some (.ref C):=(hg k).symm.trans hk;rcases hm with⟨rfl,hm⟩ | ⟨rfl,hm⟩
 .exact vc X (e▸h.1 k hm)
 .exact vc X (e▸h.2 k hm)
theorem HC(X:K.In B)(hg:∀x,mg x=gL K x)(h:LN K Vs yes no=true) :∀k C b,mg k=some (.ref C)->(b=true/\k∈yes)\/(b=false/\k∈no)->lL B C Vs b:=by
 simp only[LN,az,aB]at h;intro k C b hk hm;have e:gL K k=some (.ref C):=(hg k).symm.trans hk;rcases hm with⟨rfl,hm⟩ | ⟨rfl,hm⟩
 .exact vb X (e▸h.1 k hm)
 .exact vb X (e▸h.2 k hm)
theorem o6{α β:Type}[BEq α][LawfulBEq α]{l:List (α×β)}{a:α}{b:β}(h:l.lookup a=some b) :(a,b)∈l:=by induction l with
 | nil=>exact bz h
 | cons p l ih=>rw[aU]at h;cases q:a==p.1 with
  | true=>rw[q]at h;refine Er (bO h).symm ?_;rw[cZ]at q;exact Er q<|.head _
  | false=>rw[q]at h;exact .tail _<|ih h
noncomputable abbrev Qp:Str:=⟨#[86,97,108,117,101,69,114,114,111,114]⟩
def Mu(K:Frag)(x:Str) :Value:=(gL K x).getD (.type "ValueError")
def Rp(K:Frag)(sb:List (Str×Sd×Sd)) :Bool:=sb.all λe=>LO K (Mu K e.1) e.2.1 e.2.2&&((gL K e.1).isSome||decide (e.1=Qp))
def NC(K:Frag)(sbt:List (Sd×Sd×Sd)) :Bool:=sbt.all λe=>LN K (e.1.map<|Mu K) e.2.1 e.2.2&&e.1.all λx=>(gL K x).isSome
theorem K4(hg:∀x,mg x=gL K x) :∀{cs:Sd},(cs.all λx=>(gL K x).isSome)=true->ju mg mb cs (cs.map<|Mu K):=by intro cs;induction cs with
 | nil=>intro _;trivial
 | cons x cs ih=>intro h;rw[List.all_cons,az]at h;obtain⟨v,hv⟩:=i9.mp h.1;refine⟨.inl ?_,ih h.2⟩;rw[hg,hv];unfold Mu;rw[hv];rfl
theorem D4{sb:List (Str × Sd × Sd)}(X:K.In B)(hg:∀x,mg x = gL K x)(hmb:∀x:Str,x≠"__name__"->mb x = bootBuiltins x)(hve:bootBuiltins Qp = some (.type "ValueError"))(h:Rp K sb = true) :∀c yes no,sb.lookup c = some (yes,no)-> ∃SA,(mg c = some SA\/(mg c = none/\mb c = some SA))/\ ∀k C b,mg k = some (.ref C)->(b = true/\k∈yes)\/(b = false/\k∈no)->lM B C SA b:=by intro c yes no hl;have:=aB.mp h _ (o6 hl);simp only[az,Bool.or_eq_true,cC]at this;obtain⟨h1,h2⟩:=this;refine⟨Mu K c,?_,HD X hg h1⟩;cases q:gL K c with
 | some v=>left;rw[hg,q];unfold Mu;rw[q];rfl
 | none=>
  rcases h2 with h2 | h2
  .rw[q]at h2;cases h2
  .right;refine⟨by rw[hg,q],?_⟩;rw[hmb c (by rw[h2];decide),h2,hve,<- h2];unfold Mu;rw[q];rfl
theorem D2{sbt:List (Sd×Sd×Sd)}(X:K.In B)(hg:∀x,mg x=gL K x)(h:NC K sbt=true) :∀cs yes no,sbt.lookup cs=some (yes,no)-> ∃Vs,ju mg mb cs Vs/\ ∀k C b,mg k=some (.ref C)->(b=true/\k∈yes)\/(b=false/\k∈no)->lL B C Vs b:=by intro cs yes no hl;have:=aB.mp h _<|o6 hl;rw[az]at this;exact⟨_,K4 hg this.2,HC X hg this.1⟩
end
end Mv
end
section
open PySem PySem.W PyProof.Rows Mv
set_option maxHeartbeats 8000000
namespace Lq
abbrev ds(n:Nat):Mv.Cfg:=⟨P.glob,cF P n,[],false,bT P⟩
theorem chk:CN 0 tb.fn P.fns nss=true:=by decide +kernel
theorem chkBd:bL tb.fn P.fns nss=bR tb.fn P.fns nss:=by kernel_rfl
theorem chkF:yd Hq.view (looseW Hq.view Hq.loose)=true:=by decide +kernel
theorem chkM:∀k,(plainsOf Hq.view<|looseW Hq.view Hq.loose).find? (λc=>c.name==ka k)=tb.cr k
 | 0=>by kernel_rfl
 | 1=>by kernel_rfl
 | _+2=>by kernel_rfl
theorem chkR:QS=true:=by decide +kernel
theorem chkC:(cls.all λk=>(ownsOf Hq.view).any λo=>decide (o.name = k) && decide (o.newId = "ValueError.__new__") && (o.bm == [.type "ValueError",.type "Exception",.type "BaseException",.type "object"])) = true:=by decide +kernel
theorem chkA(P:Params) :ON (Hq.K P) cls hcs tb.hb=true:=by kernel_rfl
theorem kG(P:Params) :((Hq.K P).lookup mainGlobals).elim false (λo=>match o.data with | .dict _ _=>true | _=>false)=true:=by kernel_rfl
theorem chkI(P:Params) :Rp (Hq.K P) sb=true:=by kernel_rfl
theorem chkT(P:Params) :NC (Hq.K P) sbt=true:=by kernel_rfl
theorem bootVE:bootBuiltins Qp = some (.type "ValueError"):=by kernel_rfl
end Lq
end
section
namespace Lq
open PySem Mv
noncomputable def gH(i:Int) :Bool:=decide (-1000000000000000000<i)&&decide (i<1000000000000000000)
mutual
noncomputable def dep:D->Nat
 | .tuple V=>deps V+1
 | _=>0
noncomputable def deps:Sb->Nat
 | []=>0
 | d::V=>max (dep d)<|deps V
end
mutual
noncomputable def wt:D->Nat
 | .tuple V=>1+wts V
 | _=>1
noncomputable def wts:Sb->Nat
 | []=>0
 | d::V=>wt d+wts V
end
mutual
noncomputable def gm:D->Bool
 | .tuple V=>goods V
 | .int i=>gH i
 | _=>false
noncomputable def goods:Sb->Bool
 | []=>true
 | d::V=>gm d&&goods V
end
inductive n7{α:Sort _}(A B:α->Prop) :Prop
 | mk (x:α) :A x->B x->n7 A B
inductive Ai{α:Sort _}(A B C:α->Prop) :Prop
 | mk (x:α) :A x->B x->C x->Ai A B C
inductive PC{α:Sort _}(A B C E:α->Prop) :Prop
 | mk (x:α) :A x->B x->C x->E x->PC A B C E
inductive Rc{α β:Sort _}(A B:α->β->Prop) :Prop
 | mk (x:α) (y:β) :A x y->B x y->Rc A B
inductive MF{α β:Sort _}(A B C:α->β->Prop) :Prop
 | mk (x:α) (y:β) :A x y->B x y->C x y->MF A B C
theorem rH(d:D) :1<=wt d:=by cases d <;> first | exact aQ 1 | exact aq _ _
def oU(d:D)(r:Int) :Int:=if gm d=true/\(wt d:Int)<=r then r - wt d else -1
theorem ku{d:D}(h:gm d=true/\(wt d:Int)<=r) :oU d r=r - wt d:=if_pos h
theorem ej{d:D}(h:¬(gm d=true/\(wt d:Int)<=r)) :oU d r = -1:=if_neg h
theorem yL(n:Nat)(t:D)(r0:Int)(ih:∀d r,dep d<n->cF P n 0 [.fz d,.fz<|.int r]=some (.ok<|.fz<|.int<|oU d r,[])) :∀V left s4,deps V<n->0<=left->
  ((goods V=true/\(wts V:Int)<=left)->dJ (ds n) [.fz t,.fz<|.int r0,.no,.fz<|.int left,s4] (.one 4) Q4 [4] V=some (.ok .next,[.fz t,.fz<|.int r0,.no,.fz<|.int<|left - wts V,.no]))/\
  (¬(goods V=true/\(wts V:Int)<=left)-> ∃Y,dJ (ds n) [.fz t,.fz<|.int r0,.no,.fz<|.int left,s4] (.one 4) Q4 [4] V=some (.ok<|.ret<|.fz<|.int<|-1,Y)):=by
 intro V;induction V with
 | nil=>intro left s4 _ hl;refine⟨λj0_=>?_,λh=>absurd ⟨rfl,hl⟩ h⟩;rw[b4];refine Er (Int.sub_zero left) ?_;rfl
 | cons d V IH=>
  intro left s4 h hl;have h1:dep d<n:=by exact(Ln [dep d,n,max (dep d)<|deps V] (.w (.p 1 .x) .y) [Gl (.p 1 .z) .y,Gl .x .z] rfl h<|nB (dep d)<|deps V)
  have h2:deps V<n:=by exact(Ln [deps V,n,max (dep d)<|deps V] (.w (.p 1 .x) .y) [Gl (.p 1 .z) .y,Gl .x .z] rfl h<|lO (dep d)<|deps V)
  have e:=ih d left h1;have eg:goods (d::V)=(gm d&&goods V):=rfl;refine Er eg<|Er (rfl:wts (d::V)=wt d+wts V) ?_;by_cases hg:gm d=true/\(wt d:Int)<=left
  .rw[ku hg]at e;have lt:¬(left - (wt d:Int)<0):=by exact(λmvo18=>(qj [wt d] [left] [Gi (.n .x) .x,Gi (.p 1<|.s .x<|.n .x)<|.c 0] rfl (hg).2 mvo18))
   refine⟨λz=>?_,λz=>?_⟩
   .have z1:=z.1;rw[hg.1,Bool.true_and]at z1;have q:=(IH (left - wt d) (.fz d) h2<|sB [wt d] [left] 1 (.i (.c 0)<|.s .x<|.n .x) [Gi (.n .x) .x] rfl (hg).2).1 ⟨z1,by have:=z.2;push_cast at this;exact(sB [wts V,wt d] [left] 1 (.i (.n .x)<|.s .x<|.n .y) [Gi (.n<|.a .y .x) .x] rfl (z).2)⟩;have:left - ↑(wt d) - ↑(wts V)=left - ↑(wt d+wts V):=by push_cast;omega
    rw[this]at q;exact gI [.c 0<|e,.b 0<|lF lt,.lp 1<|q]
   .obtain⟨Y,q⟩:=(IH (left - wt d) (.fz d) h2<|sB [wt d] [left] 1 (.i (.c 0)<|.s .x<|.n .x) [Gi (.n .x) .x] rfl (hg).2).2 λz'=>z ⟨by refine Er hg.1<|Er z'.1 ?_;rfl,by have:=z'.2;push_cast;exact(sB [wt d,wts V] [left] 1 (.i (.a (.n .x)<|.n .y) .x) [Gi (.n .y)<|.s .x<|.n .x] rfl (z').2)⟩;exact⟨Y,by exact gI [.c 0<|e,.b 0<|lF lt,.lp 1<|q]⟩
  .have e:=(ej hg)▸e;refine⟨λz=>absurd ⟨?_,by have:=z.2;push_cast at this;exact(sB [wt d,wts V] [left] 1 (.i (.n .x) .x) [Gi (.n<|.a .x .y) .x] rfl (z).2)⟩ hg,λj0_=>⟨[.fz t,.fz<|.int r0,.no,.fz<|.int<|-1,.fz d],by exact gI [.c 0<|e]⟩⟩;have z1:=z.1;rw[az]at z1;exact z1.1
theorem Fy:∀n d r,dep d<n->cF P n 0 [.fz d,.fz<|.int r]=some (.ok<|.fz<|.int<|oU d r,[]):=by intro n;induction n with
 | zero=>intro d r h;exact(False.elim<|Lf [dep d] [Gl (.p 1 .x)<|.c 0] rfl h)
 | succ n ih=>
  intro d r h;by_cases h1:r<1
  .exact Er (ej (by have:=rH d;exact(λmvo8=>(qj [wt d] [r] [Gi (.p 1 .x)<|.c 1,Gl (.c 1) .x,Gi (.n .x) .x] rfl h1 this (mvo8).2)))) (bB [.b 0<|v5 h1])
  .cases d with
   | tuple V=>
    obtain⟨q1,q2⟩:=yL n (.tuple V) r ih V (r - 1) .no ((Ln [deps V,n] (.w (.p 1 .x) .y) [Gl (.p 1<|.p 1 .x)<|.p 1 .y] rfl h))<|Li [r] (.i (.c 0)<|.s .x<|.c 1) [Gi (.c 1) .x] rfl<|pV.mp h1;by_cases hg:goods V=true/\(wts V:Int)<=r - 1
    .have q:=q1 hg;refine Er (ku ⟨by refine Er (rfl:gm (.tuple V)=goods V) ?_;exact hg.1,by refine Er (rfl:wt (.tuple V)=1+wts V) ?_;push_cast;exact(sB [wts V] [r] 1 (.i (.a (.c 1)<|.n .x) .x) [Gi (.n .x)<|.s .x<|.c 1] rfl (hg).2)⟩)<|Er (rfl:wt (.tuple V)=1+wts V) ?_;have:r - 1 - (wts V:Int)=r - ((1+wts V:Nat) :Int):=by push_cast;omega
     exact Er this.symm<|bB [.b 0<|lF h1,.lp 6<|q]
    .obtain⟨Y,q⟩:=q2 hg;exact Er (ej (λz=>hg ⟨by rw[(rfl:gm (.tuple V)=goods V)]at z;exact z.1,by have:=z.2;rw[(rfl:wt (.tuple V)=1+wts V)]at this;push_cast at this;exact(sB [wts V] [r] 1 (.i (.n .x)<|.s .x<|.c 1) [Gi (.a (.c 1)<|.n .x) .x] rfl this)⟩))<|bB [.b 0<|lF h1,.lp 6<|q]
   | int i=>
    have eg:gm (.int i)=gH i:=rfl;refine cX λSD g=>?_;by_cases h2: -1000000000000000000<i
    .refine g ?_;by_cases h3:i<1000000000000000000
     .refine Er (ku ⟨by refine Er eg ?_;simp[gH,h2,h3],by refine Er (rfl:wt (.int i)=1) ?_;exact(Li [r] (.i (.n<|.c 1) .x) [Gi (.c 1) .x] rfl<|pV.mp h1)⟩) ?_;exact Er (rfl:((wt (.int i) :Nat) :Int)=1)<|bB [.b 0<|lF h1,.b 9<|v5 h2,.b 1<|v5 h3]
     .exact Er (ej (λz=>h3 (by have:=z.1;rw[eg]at this;simp[gH]at this;exact this.2))) (bB [.b 0<|lF h1,.b 9<|v5 h2,.b 1<|lF h3])
    .exact g <| Er (ej (λz=>h2 (by have:=z.1;have this:=eg▸this;simp[gH]at this;exact this.1))) (bB [.b 0<|lF h1,.b 9<|lF h2])
   | none=>exact Er (ej (λz=>by cases z.1))<|bB [.b 0<|lF h1]
   | bool b=>exact Er (ej (λz=>by cases z.1))<|bB [.b 0<|lF h1]
   | str b=>exact Er (ej (λz=>by cases z.1))<|bB [.b 0<|lF h1]
   | list b=>exact Er (ej (λz=>by cases z.1))<|bB [.b 0<|lF h1]
   | dict b=>refine Er (ej (λz=>by cases z.1)) ?_;exact bB [.b 0<|lF h1]
theorem uA(n:Nat)(d:D)(h:dep d<n) :cF P (n+1) 1 [.fz d]=some (.ok<|.fz<|.bool<|gm d&&decide (wt d<=50),[]):=by
 have:decide (0<=oU d 50)=(gm d&&decide (wt d<=50)):=by
  by_cases hg:gm d=true/\(wt d:Int)<=50
  .refine Er (ku hg) (Er hg.1 ?_);have h1:wt d<=50:=by exact(Ln [wt d] (.w .x<|.c 50) [Gi (.n .x)<|.c 50] rfl (hg).2)
   have h2:(0:Int)<=50 - wt d:=by exact(Ln [wt d] (.i (.c 0)<|.s (.c 50)<|.n .x) [Gi (.n .x)<|.c 50] rfl (hg).2)
   simp[h1];exact((hg).2)
  .refine Er (ej hg) ?_;symm;refine Er (show decide (0<=(-1:Int))=false from rfl) ?_;rw[Bool.and_eq_false_iff];cases hq:gm d with
   | false=>exact .inl rfl
   | true=>right;simp only[decide_eq_false_iff_not];intro z;exact hg ⟨hq,by exact(Ln [wt d] (.i (.n .x)<|.c 50) [Gl .x<|.c 50] rfl z)⟩
 exact Er this.symm<|bB [.c 0<|(Fy n d 50 h),.b 0 (show bZ Cm.ge (PyData.int<|oU d (50:Int)) (PyData.int (0:Int))=some (decide<|(0:Int)<=oU d (50:Int)) by simp only[Mj])]
theorem jS{a b:Int}(ha:a.natAbs<2 ^ 64) :y2 a b=some (.fz<|.int<|a*b):=by unfold y2 uo;refine Er (ak ha) ?_;rfl
theorem BL{a b:Int}(hb:b.natAbs<2 ^ 64) :y2 a b=some (.fz<|.int<|a*b):=by unfold y2 uo;refine Er (ak hb) ?_;rw[Bool.or_true];rfl
noncomputable def Vl(d:D) :Prop:=gm d=true/\dep d<=5/\wt d<=50
theorem Vl.int(h1: -1000000000000000000<i)(h2:i<1000000000000000000) :Vl (.int i):=⟨by show gH i=true;unfold gH;refine Er (ak h1)<|Er (ak h2) ?_;rfl,by show 0<=5;decide,by show 1<=50;decide⟩
theorem fm(a:Int)(m:Int)(h0:0<m) :0<=a.fmod m/\a.fmod m<m:=⟨Int.fmod_nonneg_of_pos a h0,Int.fmod_lt_of_pos a h0⟩
noncomputable def vD(d:D) :Prop:= ∃i:Int,d = .int i/\0<=i/\i<1000
theorem tY:∀{V:Sb},(∀d∈V,vD d)->goods V=true/\deps V=0/\wts V=V.length:=by intro V;induction V with
 | nil=>exact @λj0_=>⟨rfl,rfl,rfl⟩
 | cons d V ih=>
  intro h;refine aR (h d aa) λi Q=>?_;refine Er Q.1 ?_;have q:=ih λx hx=>h x<|ac _ hx;refine⟨?_,?_,?_⟩
  .show(gH i&&goods V)=true
   unfold gH;refine Er q.1<|Er (ak (by exact(Li [i] (.i (.p 1<|.g<|.c 1000000000000000000) .x) [Gi (.c 0) .x] rfl Q.2.1)))<|Er (ak (by omega)) ?_;rfl
  .exact(dM (jv.mpr ⟨(Ln [] (.w (.c 0)<|.c 0) [] rfl),(Ln [deps V] (.w .x<|.c 0) [Ge .x<|.c 0] rfl q.2.1)⟩)<|Ln [max (0:Nat)<|deps V] (.w (.c 0) .x) [] rfl)
  .exact(dM (Ln [wts V,V.length] (.w (.a (.c 1) .x)<|.p 1 .y) [Ge .x .y] rfl q.2.2)<|Ln [V.length,wts V] (.w (.p 1 .x)<|.a (.c 1) .y) [Gf .y .x] rfl q.2.2)
theorem Vl.smalls(h:∀d∈V,vD d)(hl:V.length<=49) :Vl (.tuple V):=by have q:=tY h;exact⟨q.1,by show deps V+1<=5;exact(Ln [deps V] (.w (.p 1 .x)<|.c 5) [Ge .x<|.c 0] rfl q.2.1),by show 1+wts V<=50;omega⟩
theorem idx_map(S:Sm)(i:Int)(h0:0<=i)(h1:i<S.length) :∃c,da (S.map PyData.int) i=some (.int c):=by
 unfold da;refine Er (if_pos h0) ?_;have hl:i.toNat<(S.map PyData.int).length:=by rw[ai];omega
 exact⟨S[i.toNat]'(by simpa using hl),by refine Er (aw hl) ?_;simp⟩
theorem cell(n:Nat)(S:Sm)(i:Int)(h0:0<=i) :∃c,cF P (n+1) 16 [.fz<|.list<|S.map .int,.fz<|.int i]=some (.ok<|.fz<|.int c,[]):=by
 by_cases q:i<S.length
 .exact aR (idx_map S i h0 q) λc hc=>⟨c,by exact bB [.b 1 (show bZ Cm.lt (PyData.int i) (PyData.int (↑(List.map PyData.int S).length:Int))=some true from v5 (by rw[ai];exact q)),.d 1<|hc]⟩
 .exact⟨0,by exact bB [.b 1 (show bZ Cm.lt (PyData.int i) (PyData.int (↑(List.map PyData.int S).length:Int))=some false from lF (by rw[ai];exact q))]⟩
theorem JG(n:Nat)(pick:Int)(s1:Slot) :∀(ks:Sg)(s2:Slot),(∀k∈ks,k<20)->
  ∃rs,dC (ds n) [.fz<|.int pick,s1,s2] (SF HU<|sc fY io) (.one 2) [] (ks.map λ(k:Nat)=>.int<|0+k)=some (.ok rs,[.fz<|.int pick,s1,.no])/\rs.length=ks.length/\ ∀d∈rs,vD d:=by
 intro ks;induction ks with
 | nil=>exact @λs2 j0_=>⟨[],by refine Er aZ ?_;rw[cI];rfl,rfl,λj0_ h=>by cases h⟩
 | cons k ks ih=>
  intro s2 hk;refine aR (ih (.fz<|.int<|0+k) λj hj=>hk j<|ac _ hj) λrs q=>?_;refine⟨.int ((pick.fdiv 16).fmod<|0+k+2)::rs,?_,congrArg (· + 1) q.2.1,λd hd=>?_⟩
  .have h0:¬((0:Int)+k+2=0):=by exact(λmvo14=>(Lf [k] [Gj (.p 2<|.a (.c 0)<|.n .x)<|.c 0] rfl mvo14))
   exact p9 [.cp 3<|q.1]
  .rcases am.mp hd with rfl | hd
   .exact⟨_,rfl,(fm (pick.fdiv 16) (0+k+2)<|Ln [k] (.i (.p 1<|.c 0)<|.p 2<|.a (.c 0)<|.n .x) [] rfl).1,by exact(sB [k] [(pick.fdiv (16:Int)).fmod<|(0:Int)+(↑k:Int)+(2:Int)] 1 (.i (.p 1 .x)<|.c 1000) [Gl (.p 1 .x)<|.c 20,Gi (.p 1 .x)<|.p 2<|.a (.c 0)<|.n .x] rfl (hk k aa) ((fm (pick.fdiv 16) (0+k+2)<|Ln [k] (.i (.p 1<|.c 0)<|.p 2<|.a (.c 0)<|.n .x) [] rfl)).2)⟩
   .exact q.2.2 d hd
noncomputable abbrev xy:Sb:=[.int 0,.int 1,.int 2,.int 3,.int 5,.int<|-1,.int<|-4,.tuple [],.tuple [.int 1],.tuple [.int 2,.int 0],.tuple [.int 1,.int 2,.int 3],.tuple [.tuple [],.int 1],.tuple [.tuple [.int 1,.int 2],.tuple [.int 3]],.tuple [.int 4,.tuple [.int 5,.tuple [.int 6]]]]
theorem eh(h0:0<=r)(h1:r<S.length) :n7 (λd=>da S r=some d) (λd=>d∈S):=by
 unfold da;refine Er (if_pos h0) ?_;have hl:r.toNat<S.length:=by omega
 exact⟨S[r.toNat],aw hl,lQ hl⟩
def EG(d:D) :Bool:=gm d&&decide (dep d<=5)&&decide (wt d<=50)
theorem lA{d:D}(h:EG d=true) :Vl d:=by unfold EG at h;rw[az,az]at h;exact⟨h.1.1,aF h.1.2,aF h.2⟩
theorem yI:xy.all EG=true:=by kernel_rfl
theorem yH(r:Int)(h0:0<=r)(h1:r<14) :n7 (λd=>da xy r=some d) (λd=>Vl d):=by obtain⟨d,h,m⟩:=eh (S:=xy) h0 h1;exact⟨d,h,lA<|aB.mp yI d m⟩
theorem oL(n:Nat)(pick:Int) :n7 (λd=>cF P (n+1) 18 [.fz<|.int pick]=some (.ok<|.fz d,[])) (λd=>Vl d):=by
 by_cases q:pick.fmod 16=14
 .have hf:=fm (pick.fdiv 16) 1999999999999999999 (by decide);exact⟨.int<|(pick.fdiv 16).fmod 1999999999999999999 - 1000000000000000000+1,by exact bB [.b 1<|eqT q],.int (by omega) (by omega)⟩
 .by_cases q2:pick.fmod 16=15
  .have hf:=fm (pick.fdiv 16) 9 (by decide);have ht: -1000000000<=(pick.fdiv 16).fmod 9/\(pick.fdiv 16).fmod 9<=(Sz:Nat):=⟨by omega,by show(pick.fdiv 16).fmod 9<=16777216;omega⟩
   obtain⟨rs,Q⟩:=JG n pick (.own<|.list xy) (List.range ((pick.fdiv 16).fmod 9).toNat) .no λk hk=>by have:=aW.mp hk;omega
   exact⟨.tuple rs,by exact bB [.b 1 (show bZ Cm.eq (PyData.int<|pick.fmod (16:Int)) (PyData.int (14:Int))=some false from MW (by rw[q2];decide)),.b 2<|eqT q2,.l 3 (show di kZ.range [PyData.int<|(pick.fdiv (16:Int)).fmod (9:Int)]=some (ji (0:Int) ((pick.fdiv (16:Int)).fmod (9:Int)).toNat) from(dB _).trans<|if_pos ht),.cp 0<|Q.1],.smalls Q.2.2 (by refine Er Q.2.1<|Er aO ?_;omega)⟩
  .obtain⟨d,hd,hv⟩:=yH (pick.fmod 16) (fm pick 16 (by decide)).1<|Or.elim (Int.lt_or_gt_of_ne q) (λmvs6=>mvs6) (λmvs6=>(Or.elim (Int.lt_or_gt_of_ne q2) (λmvs7=>(by omega)) (λmvs7=>(sB [] [pick.fmod (16:Int)] 0 (.i (.p 1 .x)<|.c 14) [Gi (.p 1 .x)<|.c 16,Gi (.p 1<|.c 15) .x] rfl ((fm pick 16 (by decide))).2 mvs7))));exact⟨d,by exact bB [.b 1<|MW q,.b 2<|MW q2,.d 2<|hd],hv⟩
noncomputable abbrev iK:Str:=⟨[112,108,117,115].toArray⟩
noncomputable abbrev iE:Str:=⟨[109,105,110,117,115].toArray⟩
noncomputable abbrev gW:Str:=⟨[116,105,109,101,115].toArray⟩
noncomputable abbrev hU:Str:=⟨[111,118,101,114].toArray⟩
noncomputable abbrev jm:Str:=⟨[108,101,115,115].toArray⟩
noncomputable abbrev jl:Str:=⟨[115,97,109,101].toArray⟩
noncomputable abbrev iL:Str:=⟨[106,111,105,110].toArray⟩
noncomputable abbrev ew:Str:=⟨[100,111,119,110].toArray⟩
noncomputable abbrev cO:Str:=⟨[102,105,114,115,116].toArray⟩
noncomputable abbrev en:Str:=⟨[114,101,115,116].toArray⟩
noncomputable abbrev cP:Str:=⟨[101,109,112,116,121].toArray⟩
noncomputable abbrev b6:Str:=⟨[108,105,115,116].toArray⟩
noncomputable abbrev iY:Str:=⟨[105,102].toArray⟩
noncomputable abbrev fc:Str:=⟨[114,101,102,117,115,101].toArray⟩
noncomputable abbrev ml:Str:=⟨[118,97,108,117,101].toArray⟩
noncomputable abbrev Ch:Str:=⟨[110,97,109,101].toArray⟩
noncomputable abbrev jX:Str:=⟨[100,111].toArray⟩
noncomputable abbrev dQ:Str:=⟨[99,97,108,108].toArray⟩
abbrev mV:Sd:=[iK,iE,gW,hU,jm,jl,iL]
abbrev tZ:Sd:=[ew,cO,en,cP]
noncomputable abbrev fy:Sd:=[⟨[78,111,78,117,109,98,101,114].toArray⟩,⟨[78,111,76,105,115,116].toArray⟩,⟨[78,111,70,105,114,115,116].toArray⟩,⟨[78,111,68,111,119,110].toArray⟩,⟨[66,121,78,111,117,103,104,116].toArray⟩,⟨[84,111,111,71,114,101,97,116].toArray⟩]
noncomputable def gj(x:Str)(l:Sd) :Bool:=l.any λy=>decide<|y=x
theorem eZ{x:Str}{l:Sd} :gj x l=true↔x∈l:=by unfold gj;rw[ix];exact⟨λ⟨y,hy,h⟩=>aF h▸hy,λh=>⟨x,h,ak rfl⟩⟩
theorem xf(x:Str) :∀l:Sd,lj (.str x) (l.map .str)=some (gj x l):=by intro l;induction l with
 | nil=>exact rfl
 | cons y l ih=>
  show(match qU (.str y) (.str x) with | none=>none | some b=>match lj (.str x) (l.map .str) with | none=>none | some c=>some<|b||c)=_
  rw[e_strD,ih];rfl
theorem oo(x:Str)(l:Sd) :Lm (.str x) (.tuple<|l.map .str)=some (gj x l):=by
 show(if noDict (.str x)=true then lj (.str x) (l.map .str) else none)=_
 rw[if_pos (show noDict (.str x)=true from rfl),xf]
theorem Ll(x:Str) :Lm (.str x) qQ=some (gj x tZ):=oo x tZ
def jY(x:Str) :Bool:=gj x mV||(gj x tZ||decide (x=b6))
def c8(x:Str)(m:Int) :Bool:=if x=b6 then decide (m<=8) else m==(if gj x mV=true then 2 else 1)
inductive T where
 | val (d:D) | nam (x:Str) | ref (x:Str) | iff (ps:List T) | doo (op:Str) (ps:List T) | call (f:Str) (ps:List T)
mutual
noncomputable def cz:T->D
 | .val d=>.tuple [.str ml,d]
 | .nam x=>.tuple [.str Ch,.str x]
 | .ref x=>.tuple [.str fc,.str x]
 | .iff ps=>.tuple (.str iY::encs ps)
 | .doo op ps=>.tuple [.str jX,.str op,.tuple<|encs ps]
 | .call f ps=>.tuple [.str dQ,.str f,.tuple<|encs ps]
noncomputable def encs:List T->Sb
 | []=>[]
 | t::ts=>cz t::encs ts
end
theorem j4(ts:List T) :encs ts=ts.map cz:=by induction ts with
 | nil=>rfl
 | cons t ts ih=>show cz t::encs ts=_;refine Er ih ?_;rfl
noncomputable abbrev eP(l:Sd) :D:=.tuple<|l.map .str
theorem oP(d:D)(V:Sb) :vE (.tuple (d::V)) (.int 1) .none=some (.fz<|.tuple V):=rfl
theorem RU(k:Nat) :((((k+1:Nat) :Int))==0)=false:=by
 have:¬(((k+1:Nat) :Int)=0):=by exact(λmvo2=>(Lf [k] [Gj (.n<|.p 1 .x)<|.c 0] rfl mvo2))
 simpa using this
theorem MS(a:D)(l:Sb) :((((a::l).length:Nat) :Int)==0)=false:=by
 have:¬(((a::l).length:Int)=0):=by exact Er aD (λmvo3=>(Lf [l.length] [Gj (.n<|.p 1 .x)<|.c 0] rfl mvo3))
 simpa using this
theorem eM(ts:List T) :(encs ts).length=ts.length:=by rw[j4,ai]
noncomputable abbrev IW(b:Bool) :Option (Se Rv×List Mv.Slot):=some (.ok<|.fz<|.bool b,[])
structure Hd where
 nm:Str
 ps:Sd
 wn:Sp
noncomputable abbrev eW(h:Hd) :D:=.tuple [.str h.nm,.tuple<|h.ps.map .str,.tuple<|h.wn.map .bool]
noncomputable abbrev CZ:Sb:=[.int 0,.int 1,.int 2,.tuple [],.tuple [.int 1],.tuple [.int 2,.int 0],.tuple [.tuple [],.int 1],.int 3]
noncomputable abbrev CY:Sb:=[.int 3,.int<|-1,.tuple [.int 1,.int 2],.int 0]
noncomputable abbrev CX:Sb:=[.tuple [.int 0,.tuple [.int 1,.tuple [.int 2]]],.int<|-4,.int 2,.tuple []]
def Sl:Sb:=CZ++CY++CX++[.tuple [.int 0],.tuple [.int 2],.tuple [.tuple [.int 1,.tuple [.int 2]]],.tuple [.int 1,.tuple [.int 2]],.tuple [.tuple [.int 2]]]
class inductive Tm(kn:Sd) :T->Prop
 | val {d:D} :d∈Sl->Tm kn (.val d)
 | nam {x:Str} :x∈kn->Tm kn (.nam x)
 | ref {x:Str} :x∈fy->Tm kn (.ref x)
 | doo {op:Str} {t:T} :op∈ [cO,en,ew]->Tm kn t->Tm kn (.doo op [t])
noncomputable def Ok(G:List Hd)(kn ns:Sd) :Nat->T->Prop
 | 0,_=>False
 | r+1,t=>match t with
  | .val d=>Vl d
  | .nam x=>x∈ns
  | .ref x=>x∈fy
  | .iff ps=>ps.length=3/\ ∀t∈ps,Ok G kn ns r t
  | .doo op ps=>(jY op=true/\c8 op ps.length=true)/\ ∀t∈ps,Ok G kn ns r t
  | .call f ps=>(∃h∈G,h.nm=f/\ps.length=h.wn.length/\ ∀p∈ps.zip h.wn,p.2=true->Tm kn p.1)/\ ∀t∈ps,Ok G kn ns r t
noncomputable abbrev ij:=Hd×T
abbrev nY(f:ij) :D:=.tuple [.str f.1.nm,eP f.1.ps,cz f.2]
abbrev fM(p:List ij) :D:=.tuple<|p.map nY
theorem rT(n:Int)(S:List α) :(rep n S).length=S.length*n.toNat:=by unfold rep;rw[nQ];simp[kh]
theorem iB(n:Nat)(p:Int) :∃q:Int,cF P (n+1) 17 [.fz<|.int p]=some (.ok<|.fz<|.int q,[]):=by have h:=fm (p*48271+11) 2147483647 (by decide);have m1:=BL (a:=p) (b:=48271) (by decide);have m2:=jS (a:=(p*48271+11).fmod 2147483647) (b:=(p*48271+11).fmod 2147483647)<|(by omega);exact⟨((p*(48271:Int)+(11:Int)).fmod (2147483647:Int)*(p*(48271:Int)+(11:Int)).fmod (2147483647:Int)).fmod (2147483629:Int),bB [.v 0<|m1,.v 2<|m2]⟩
noncomputable abbrev hS:Str:=⟨[116,111,112].toArray⟩
structure kU(l:Sd) :Prop where
 len:l.length=12
 nd:l.Nodup
 zz:hS∉l
def vV(l:Sd) :Bool:=decide (l.length=12)&&(decide l.Nodup && !gj hS l)
theorem yZ{l:Sd}(h:vV l=true) :kU l:=by unfold vV at h;simp only[az,cC,fJ]at h;exact⟨h.1,h.2.1,λm=>(by rw[eZ.mpr m]at h;cases h.2.2)⟩
noncomputable abbrev tX:Sd:=[⟨[105,102,115].toArray⟩,⟨[108,105,115,116,120].toArray⟩,⟨[112,108,117,115,50].toArray⟩,⟨[114,101,102,117,115,101,115].toArray⟩,⟨[114,101,115,116,101,100].toArray⟩,⟨[100,111,119,110,115].toArray⟩,⟨[115,97,109,101,49].toArray⟩,⟨[106,111,105,110,115].toArray⟩,⟨[111,118,101,114,115].toArray⟩,⟨[102,105,114,115,116,115].toArray⟩,⟨[101,109,112,116,121,120].toArray⟩,⟨[97,57].toArray⟩]
def PJ(r:Nat) :Sd:=(List.range 12).map λk=>tX.getD ((r+k) % 12) ⟨#[]⟩
theorem Qg:((List.range 12).all λr=>vV<|PJ r)=true:=by kernel_rfl
theorem Kw(r:Nat)(h:r<12) :kU (PJ r):=yZ<|aB.mp Qg r<|aW.mpr h
theorem uE(a:Int)(k N:Nat)(h:0<N) :(a+(0+(k:Int))).fmod N=((((a.fmod N).toNat+k) % N:Nat) :Int):=by rw[pW _<|cH N,pW _<|cH N,cy,Int.natCast_emod,dO,dI<|Int.emod_nonneg _<|Int.natCast_ne_zero.mpr<|Nat.pos_iff_ne_zero.mp h,Int.emod_add_emod]
theorem ud(n:Nat)(c:Int)(a1 a2 a3 a4 a5 a6:Slot)(G:a1 = .own (.list<|tX.map .str)\/a1 = .fz (.list<|tX.map .str)) :∀(ks:Sg)(s7:Slot), ∃Y,dC (ds n) [.fz<|.int c,a1,a2,a3,a4,a5,a6,s7] OS (.one 7) [] (ks.map λ(k:Nat)=>.int<|0+k)=some (.ok<|(ks.map λk=>tX.getD ((((c.fdiv 9).fmod 12).toNat+k) % 12) ⟨#[]⟩).map .str,Y)
 | []=>@λs7=>⟨_,by rw[aZ,cI];rfl⟩
 | k::ks=>@λs7=>by
  refine aR (ud n c (.fz<|.list<|tX.map .str) a2 a3 a4 a5 a6 (.inr rfl) ks<|.fz<|.int<|0+k) λY ih=>?_;have hm:=fm (c.fdiv 9) 12 (by decide);have hx:da (tX.map PyData.str) ((c.fdiv 9+(0+(k:Int))).fmod 12)=some (.str<|tX.getD ((((c.fdiv 9).fmod 12).toNat+k) % 12) ⟨#[]⟩):=by refine Er (uE (c.fdiv 9) k 12 (by decide)) ?_;unfold da;rw[if_pos<|cH _,cj,bn];refine Er bg ?_;refine Er (aw<|(lN _ (by decide))) ?_;rfl
  refine⟨Y,?_⟩;refine Er ay ?_;rw[ay];refine Er ay ?_;rcases G with rfl | rfl <;> exact p9 [.d 3<|hx,.cp 0<|ih]
noncomputable abbrev rR:Sg:=[97,98,99,100,101,102,103,104,105,106,107,108,109,110,111,112,113,114,115,116,117,118,119,120,121,122,48,49,50,51,52,53,54,55,56,57]
def sg(p r:Int)(d:Nat) :Str:=⟨(rep p [109]).toArray ++ #[d]++(rep r [109]).toArray⟩
noncomputable def sl(p r d:Nat) :Sg:=List.replicate p 109++d::List.replicate r 109
theorem xz(p r d:Nat) :(sg p r d).cps.toList=sl p r d:=by
 have e:∀n:Nat,rep (n:Int) [109]=List.replicate n 109:=λn=>by unfold rep;rw[cj];exact List.flatten_replicate_singleton
 unfold sg sl;rw[e,e];simp
def Pc(p r:Nat) :Bool:=rR.all λd=>!(sl p r d==[116,111,112])
theorem Q2:((List.range 8).all λs=>(List.range<|s+1).all λp=>Pc p<|s-p)=true:=by kernel_rfl
theorem Ka:rR.Nodup:=by decide +kernel
theorem JN{p r N t:Nat}(hN:N=26\/N=36)(h:Pc p r=true) :kU ((List.range 12).map λk=>sg p r<|rR.getD ((t+k) % N) 0):=by
 have i36:∀k,(t+k) % N<rR.length:=λk=>by rcases hN with rfl | rfl;exact ir (lN _ (by decide)) (by decide);exact lN _ (by decide)
 have ge:∀k,rR.getD ((t+k) % N) 0=rR[(t+k) % N]'(i36 k):=λk=>by rw[bg,aw<|i36 k];rfl
 refine⟨by simp,?_,λm=>?_⟩
 .refine List.pairwise_map.mpr (List.Pairwise.imp_of_mem ?_ List.pairwise_lt_range);intro a b ha hb hab e;have ha:=aW.mp ha;have hb:=aW.mp hb;have e:=congrArg (λx:Str=>x.cps.toList) e;simp only[xz]at e;have e:=(List.cons.inj<|List.append_cancel_left e).1;rw[ge,ge]at e;have:=(List.getElem_inj (h₀:=i36 a) (h₁:=i36 b) Ka).mp e;rcases hN with rfl | rfl <;> omega
 .obtain⟨k,_,e⟩:=aH.mp m;have e:=congrArg (λx:Str=>x.cps.toList) e;simp only[xz]at e;have:=aB.mp h _<|ge k▸lQ (i36 k);rw[e]at this;exact absurd this (by decide)
theorem Fj(n:Nat)(c:Int)(z p N:Nat)(hz:1<=z/\z<=8)(hp:p<z)(hN:N=if p=0 then 26 else 36)(a7:Slot) :∀(ks:Sg)(SK:Sd)(s5 s6:Slot),SK.length+ks.length<=100->dJ (ds n) [.fz<|.int c,.fz<|.str ⟨rR.toArray⟩,.fz<|.int z,.fz<|.int p,.own<|.list<|SK.map .str,s5,s6,a7] (.one 5) Ro [5,6] (ks.map λ(k:Nat)=>.int<|0+k)=some (.ok .next,[.fz<|.int c,.fz<|.str ⟨rR.toArray⟩,.fz<|.int z,.fz<|.int p,.own<|.list<|(SK++ks.map λk=>sg p ((z - 1 - p:Nat) :Int)<|rR.getD ((((c.fdiv 64).fmod N).toNat+k) % N) 0).map .str,.no,.no,a7]):=by intro ks;induction ks with
 | nil=>exact @λSK s5 s6 j0_=>by refine Er aZ ?_;rw[b4,aZ,aI];rfl
 | cons k ks IH=>
  intro SK s5 s6 hl;have ih:=IH<|SK++[sg p ((z - 1 - p:Nat) :Int)<|rR.getD ((((c.fdiv 64).fmod N).toNat+k) % N) 0];have hN':N=26\/N=36:=by refine Er hN ?_;by_cases q:p=0 <;> simp[q]
  have hx:da rR ((c.fdiv 64+(0+(k:Int))).fmod N)=some (rR.getD ((((c.fdiv 64).fmod N).toNat+k) % N) 0):=by have e:(c.fdiv 64+(0+(k:Int))).fmod N=(((((c.fdiv 64).fmod N).toNat+k) % N:Nat) :Int):=uE (c.fdiv 64) k N (by rcases hN' with rfl | rfl <;> decide);have hlt:(((c.fdiv 64).fmod N).toNat+k) % N<rR.length:=aV (lN _ (by rcases hN' with rfl | rfl <;> decide)) (by rcases hN' with rfl | rfl <;> decide);refine Er e ?_;unfold da;refine Er (if_pos<|cH _) ?_;rw[cj];refine Er bg ?_;refine Er (aw hlt) ?_;rfl
  have hi:da [PyData.int 26,.int 36] (if decide (0<(p:Int))=true then 1 else 0)=some (.int N):=by
   refine Er hN ?_;by_cases q:p=0
   .subst q;rfl
   .refine Er (if_neg q) (Er (if_pos<|ak ((Or.elim (Nat.lt_or_gt_of_ne q) (λmvs20=>(sB [p] [] 0 (.i (.p 1<|.c 0)<|.n .x) [Gl (.p 1 .x)<|.c 0] rfl mvs20)) (λmvs20=>(Ln [p] (.i (.p 1<|.c 0)<|.n .x) [Gl (.p 1<|.c 0) .x] rfl mvs20))) :0<(p:Int))) ?_);rfl
  have n0:¬((N:Int)=0):=by rcases hN' with rfl | rfl <;> decide
  have hx':jE (.str ⟨rR.toArray⟩) (.int<|(c.fdiv 64+(0+(k:Int))).fmod N)=some (.str ⟨#[rR.getD ((((c.fdiv 64).fmod N).toNat+k) % N) 0]⟩):=by
   show(da rR _).map _=_
   refine Er hx ?_;rfl
  have e1:∀k:Int,0<=k->k<=10->op2 .mul (.str ⟨#[109]⟩) (.int k)=some (.fz<|.str ⟨(rep k [109]).toArray⟩):=λk h0 h1=>(KQ _ _).trans<|if_pos ⟨by exact(Li [k] (.i (.g<|.c 1000000000) .x) [Gi (.c 0) .x] rfl h0),by exact(Li [k] (.i .x<|.c 1000000000) [Gi .x<|.c 10] rfl h1),by show 1*k.toNat<=16777216;omega⟩;have l1:∀k:Int,k<=10->(rep k [109]).length<=10:=λk h=>by rw[rT];show 1*k.toNat<=10;omega
  have a2:=e1 ((z:Int) - 1 - p) (by omega) (by omega);have ez:((z:Int) - 1 - p)=((z - 1 - p:Nat) :Int):=by exact(jd (by omega) (by omega))
  rw[show rep ((z:Int) - 1 - p) [109]=rep ((z - 1 - p:Nat) :Int) [109] by exact Er ez rfl]at a2;simp only[ay];generalize rR.getD ((((c.fdiv 64).fmod N).toNat+k) % N) 0=d at hx' ih |-;have a3:op2 .add (.str ⟨(rep (p:Int) [109]).toArray⟩) (.str ⟨#[d]⟩)=some (.fz<|.str ⟨(rep (p:Int) [109]).toArray ++ #[d]⟩):=(Bv _ _).trans<|if_pos (by refine Er ax ?_;show _+1<=16777216;exact(Ln [(rep (↑p:Int) [(109:Nat)]).length] (.w (.p 1 .x)<|.c 16777216) [Gl .x<|.c 10] rfl<|l1 (p:Int)<|Ln [p,z] (.i (.n .x)<|.c 10) [Gl .y<|.c 8,Gl (.p 1 .x) .y] rfl (hz).2 hp));have a4:op2 .add (.str ⟨(rep (p:Int) [109]).toArray ++ #[d]⟩) (.str ⟨(rep ((z - 1 - p:Nat) :Int) [109]).toArray⟩)=some (.fz<|.str<|sg p ((z - 1 - p:Nat) :Int) d):=(Bv _ _).trans<|if_pos (by show((rep (p:Int) [109]).toArray ++ #[d]).size+((rep ((z - 1 - p:Nat) :Int) [109]).toArray).size<=16777216;refine Er Array.size_append<|Er ax<|Er ax<|Er ax ?_;show _+1+_<=16777216;exact(Ln [(rep (↑p:Int) [(109:Nat)]).length,(rep (↑(z - (1:Nat) - p) :Int) [(109:Nat)]).length] (.w (.a (.p 1 .x) .y)<|.c 16777216) [Gl .x<|.c 10,Gl .y<|.c 10] rfl (l1 (p:Int)<|Ln [p,z] (.i (.n .x)<|.c 10) [Gl .y<|.c 8,Gl (.p 1 .x) .y] rfl (hz).2 hp)<|l1 ((z - 1 - p:Nat) :Int)<|Ln [z - (1:Nat) - p,z,p,z - (1:Nat)] (.i (.n .x)<|.c 10) [Gl .y<|.c 8,Ge (.a .x .z) .u,Ge (.p 1 .u) .y] rfl (hz).2 (fi (n:=z - (1:Nat)) (m:=p)<|Ln [p,z - (1:Nat),z] (.w .x .y) [Gl (.p 1 .x) .z,Gf (.p 1 .y) .z] rfl hp<|fi (n:=z) (m:=(1:Nat))<|(hz).1)<|fi (n:=z) (m:=(1:Nat))<|(hz).1));have hl':decide ((SK.map PyData.str).length<Sz)=true:=ak (by rw[ai];simp only[aD,Sz]at *;omega);have ih:=ih (.fz<|.int<|0+k) (.fz<|.str ⟨#[d]⟩) (by simp only[aj,aD,dN]at *;omega);rw[ah,aY (l₂:=[_])]at ih;exact gI [.b 2 (show bZ Cm.gt (PyData.int (↑p:Int)) (PyData.int (0:Int))=some (decide<|(0:Int)<(↑p:Int)) by simp only[tq]),.d 1<|hi,.v 0<|Qs (a:=(c.fdiv (64:Int)+((0:Int)+(↑k:Int)))) n0,.d 0<|hx',.v 0<|(e1 (p:Int) (Ln [p] (.i (.c 0)<|.n .x) [] rfl)<|Ln [p,z] (.i (.n .x)<|.c 10) [Gl .y<|.c 8,Gl (.p 1 .x) .y] rfl (hz).2 hp),.v 0<|a3,.v 2<|a2,.v 0<|a4,.t 0<|hl',.lp 0<|ih]
theorem BI(n:Nat)(c:Int) :MF (λl r=>cF P (n+1) 29 [.fz<|.int c]=some (.ok r,[])) (λl r=>kU l) (λl r=>(r = .own (.list<|l.map .str)\/r = .fz (.list<|l.map .str))):=by
 by_cases q:c.fmod 9=8
 .have h12:=fm (c.fdiv 9) 12 (by decide);exact aR (ud n c (.own<|.list<|tX.map .str) .no .no .no .no .no (.inl rfl) (List.range 12) .no) λY hf=>(⟨PJ ((c.fdiv 9).fmod 12).toNat,.own<|.list<|(PJ ((c.fdiv 9).fmod 12).toNat).map .str,by exact bB [.b 1<|eqT q,.l 2<|(rfl:di .range [.int 12]=some ((List.range 12).map λ(k:Nat)=>PyData.int<|0+k)),.cp 0<|hf],Kw _ (by omega),.inl rfl⟩)
 .have h8:=fm c 8 (by decide);have hp:=fm (c.fdiv 8) (1+c.fmod 8) (by omega);have hz1:1+c.fmod 8=(((1+c.fmod 8).toNat:Nat) :Int):=by omega
  have v1:op2 .add (.int 1) (.int<|c.fmod 8)=some (.fz<|.int (((1+c.fmod 8).toNat:Nat) :Int)):=by refine Er hz1.symm ?_;rfl
  generalize (1+c.fmod 8).toNat=z at hz1 v1;have hp:=hz1▸hp;have hz2:(c.fdiv 8).fmod z=((((c.fdiv 8).fmod z).toNat:Nat) :Int):=by omega
  have v2:op2 .mod (.int<|c.fdiv 8) (.int z)=some (.fz<|.int ((((c.fdiv 8).fmod z).toNat:Nat) :Int)):=by refine Er hz2.symm ?_;rw[Bu];exact Er (if_neg<|(λmvo11=>(qj [z] [c.fmod (8:Int)] [Gi (.c 0) .x,Gj (.a (.c 1) .x)<|.n .x,Gj (.n .x)<|.c 0] rfl (h8).1 hz1 mvo11))) rfl
  generalize ((c.fdiv 8).fmod z).toNat=p at hz2 v2;have hp:=hz2▸hp;have lp:=Fj n c z p (if p=0 then 26 else 36) (⟨(by omega),(by omega)⟩) (Ln [p,z] (.w (.p 1 .x) .y) [Gi (.p 1<|.n .x)<|.n .y] rfl (hp).2) rfl .no (List.range 12) [] .no .no (by decide);rw[aZ,cK]at lp;refine⟨(List.range 12).map λk=>sg p ((z - 1 - p:Nat) :Int)<|rR.getD ((((c.fdiv 64).fmod (if p=0 then 26 else 36:Nat)).toNat+k) % (if p=0 then 26 else 36)) 0,.fz<|.list<|((List.range 12).map λk=>sg p ((z - 1 - p:Nat) :Int)<|rR.getD ((((c.fdiv 64).fmod (if p=0 then 26 else 36:Nat)).toNat+k) % (if p=0 then 26 else 36)) 0).map .str,?_,JN (p:=p) (r:=z - 1 - p) (N:=if p=0 then 26 else 36) (t:=((c.fdiv 64).fmod (if p=0 then 26 else 36:Nat)).toNat) ?_ ?_,.inr rfl⟩
  .exact bB [.b 1<|MW q,.v 2<|v1,.v 1<|v2,.l 0<|(rfl:di .range [.int 12]=some ((List.range 12).map λ(k:Nat)=>PyData.int<|0+k)),.lp 0<|lp]
  .by_cases q:p=0 <;> simp[q]
  .exact aB.mp (aB.mp Q2 (z - 1)<|aW.mpr (by omega)) p (aW.mpr (by omega))
structure gX(G:List Hd)(kn ns:Sd)(d:Nat)(t:T) :Prop where
 ok:∀r,d<=r->Ok G kn ns r t
section
variable {G:List Hd}{kn ns:Sd}{d e:Nat}{t:T}{ps:List T}{x op:Str}
theorem gX.mono(h:gX G kn ns d t)(hd:d<=e) :gX G kn ns e t:=⟨λr hr=>h.ok r<|af hd hr⟩
theorem gX.up(h:∀r,d<=r->Ok G kn ns (r+1) t) :gX G kn ns (d+1) t:=⟨λr hr=>by cases r with
 | zero=>exact(fH _ hr).elim
 | succ r=>exact h r<|cG hr⟩
theorem gX.val{d:D}(h:Vl d) :gX G kn ns 1 (.val d):=.up λj0_ j1_=>h
theorem gX.nam(h:x∈ns) :gX G kn ns 1 (.nam x):=.up λj0_ j1_=>h
theorem gX.ref(h:x∈fy) :gX G kn ns 1 (.ref x):=.up λj0_ j1_=>h
theorem gX.iff(hl:ps.length=3)(h:∀t∈ps,gX G kn ns d t) :gX G kn ns (d+1) (.iff ps):=.up λr hr=>⟨hl,λt ht=>(h t ht).ok r hr⟩
theorem gX.doo(ho:jY op=true)(hl:c8 op ps.length=true)(h:∀t∈ps,gX G kn ns d t) :gX G kn ns (d+1) (.doo op ps):=.up λr hr=>⟨⟨ho,hl⟩,λt ht=>(h t ht).ok r hr⟩
theorem gX.call(hg:g∈G)(hl:ps.length=g.wn.length)(ht:∀p∈ps.zip g.wn,p.2=true->Tm kn p.1)(h:∀t∈ps,gX G kn ns d t) :gX G kn ns (d+1) (.call g.nm ps):=.up λr hr=>⟨⟨g,hg,rfl,hl,ht⟩,λt ht=>(h t ht).ok r hr⟩
end
theorem wy:(∀d∈CZ,d∈Sl)/\(∀d∈CY,d∈Sl)/\ ∀d∈CX,d∈Sl:=by unfold Sl;exact⟨λd h=>aC _<|aC _<|aC _ h,λd h=>aC _<|aC _<|aE _ h,λd h=>aC _<|aE _ h⟩
theorem sM:CZ.all EG=true/\CY.all EG=true/\CX.all EG=true:=⟨by kernel_rfl,by kernel_rfl,by kernel_rfl⟩
theorem CW(n:Nat)(p w:Int) :n7 (λd=>cF P (n+1) 30 [.fz<|.int p,.fz<|.int w]=some (.ok<|.fz d,[])) (λd=>Vl d/\d∈Sl):=by
 have h4:=fm p 4 (by decide);obtain⟨d0,e0,m0⟩:=eh (S:=CZ) (fm p 8 (by decide)).1 (fm p 8 (by decide)).2;obtain⟨d1,e1,m1⟩:=eh (S:=CY) h4.1 h4.2;obtain⟨d2,e2,m2⟩:=eh (S:=CX) h4.1 h4.2;have l8:((CZ.length:Nat) :Int)=8:=rfl;have l4:((CY.length:Nat) :Int)=4:=rfl;have l4':((CX.length:Nat) :Int)=4:=rfl;by_cases q1:w=1
 .subst q1;refine⟨d1,?_,⟨lA<|aB.mp sM.2.1 d1 m1,wy.2.1 d1 m1⟩⟩;exact bB [.d 6<|e1]
 .have b1:(w==1)=false:=by simpa using q1
  by_cases q2:w=2
  .subst q2;refine⟨d2,?_,⟨lA<|aB.mp sM.2.2 d2 m2,wy.2.2 d2 m2⟩⟩;exact bB [.d 6<|e2]
  .have b2:(w==2)=false:=by simpa using q2
   refine⟨d0,?_,⟨lA<|aB.mp sM.1 d0 m0,wy.1 d0 m0⟩⟩;exact bB [.b 0<|(eQ _ _).trans<|congrArg some b1,.b 1<|(eQ _ _).trans<|congrArg some b2,.d 3<|e0]
theorem FZ:∀l:Sd,noDicts (l.map .str)=true:=by intro l;induction l with
 | nil=>exact rfl
 | cons x l ih=>show(true&&noDicts (l.map .str))=true;refine Er ih ?_;rfl
theorem Dk(l:Sd) :qU (.list<|l.map .str) (.list [])=some (decide<|l=[]):=by cases l with
 | nil=>rfl
 | cons x l=>
  rw[aA (by simp)];rw[LR];have:mn (.list<|(x::l).map .str) (.list [])=true:=by unfold mn;rw[show noDict (.list<|(x::l).map .str)=true from FZ _,show noDict (.list [])=true from rfl,ak (by show min _ (0+1)<=64;omega)];rfl
  rw[if_pos this];rfl
theorem xL{d:Nat}{op:Str}{t:T}(ho:jY op=true)(hl:c8 op 1=true)(h:gX G kn ns d t) :gX G kn ns (d+1) (.doo op [t]):=.doo ho hl λu hu=>by exact Er (aJ.mp hu) h
noncomputable abbrev IO:Sd:=[⟨[100,111,119,110].toArray⟩,⟨[102,105,114,115,116].toArray⟩,⟨[114,101,115,116].toArray⟩,⟨[114,101,115,116].toArray⟩,⟨[100,111,119,110].toArray⟩]
theorem AJ:IO.all (λw=>(jY w&&c8 w 1)&&gj w [cO,en,ew])=true:=by kernel_rfl
theorem EU(n:Nat)(p:Int)(hk:∀x∈kn,x∈ns)(G:Sb)(gs:List Hd) :n7 (λt=>cF P (n+2) 31 [.fz<|.int p,.fz<|.list<|kn.map .str,.fz<|.list G]=some (.ok<|.fz<|cz t,[])) (λt=>gX gs kn ns 3 t/\Tm kn t):=by
 refine aR (iB n p) λq hq=>?_;obtain⟨d,hd,hv⟩:=CW n q<|(G.length:Int).fmod 3;have hn:=Dk kn;by_cases q0:kn=[]\/(p.fdiv 5).fmod 8=0
 .refine⟨.val d,?_,(gX.val hv.1).mono (by decide),.val hv.2⟩;rcases q0 with rfl | q0
  .exact bB [.c 2<|hq,.c 5<|hd]
  .have b0:((p.fdiv 5).fmod 8==0)=true:=by simpa using q0
   by_cases qn:kn=[]
   .rw[ak qn]at hn;exact bB [.c 2<|hq,.b 0<|hn,.c 4<|hd]
   .rw[aA qn]at hn;exact bB [.c 2<|hq,.b 0<|hn,.b 1<|(eQ _ _).trans<|congrArg some b0,.c 3<|hd]
 .have qn:¬kn=[]:=λh=>q0<|.inl h;have b0:((p.fdiv 5).fmod 8==0)=false:=by(have:¬((p.fdiv 5).fmod 8=0):=λh=>q0<|.inr h);simpa using this
  have hn:=(aA qn)▸hn;have lk:(((kn.map PyData.str).length:Nat) :Int)=(kn.length:Int):=by rw[ai]
  have l0:=dH.mpr qn;refine cX λSD g=>?_;obtain⟨x,hx,mx⟩:=eh (S:=kn.map PyData.str) (r:=q.fmod kn.length) (fm q kn.length<|Ln [kn.length] (.i (.p 1<|.c 0)<|.n .x) [Gl (.p 1<|.c 0) .x] rfl l0).1 (by refine Er lk ?_;exact(fm q kn.length<|Ln [kn.length] (.i (.p 1<|.c 0)<|.n .x) [Gl (.p 1<|.c 0) .x] rfl l0).2);obtain⟨x,mk,rfl⟩:=aH.mp mx;have fx:gX gs kn ns 1 (.nam x):=.nam<|hk x mk;have nz:((kn.length:Int)=0)=False:=by simp only[eq_iff_iff,iff_false];exact(λmvo26=>(Lf [kn.length] [Gl (.p 1<|.c 0) .x,Gj (.n .x)<|.c 0] rfl l0 mvo26))
  by_cases q3:(p.fdiv 5).fmod 8<3
  .refine g ?_;refine⟨.nam x,?_,fx.mono (by decide),(.nam mk)⟩;exact bB [.c 2<|hq,.b 0<|hn,.b 1<|(eQ _ _).trans<|congrArg some b0,.v 2<|sq (a:=q) lk<|ic nz,.d 0<|hx,.b 0<|v5 q3]
  .refine g ?_;refine cX λG1 g1=>?_;obtain⟨w,hw,mw⟩:=eh (S:=IO.map PyData.str) (r:=(p.fdiv 5).fmod 8 - 3) (by omega) (by show _<(5:Int);exact(Li [(p.fdiv (5:Int)).fmod (8:Int)] (.i (.p 1<|.s .x<|.c 3)<|.c 5) [Gi (.p 1 .x)<|.c 8] rfl ((fm (p.fdiv 5) 8 (by decide))).2));obtain⟨w,mv,rfl⟩:=aH.mp mw;have ow:=aB.mp AJ w mv;rw[az,az]at ow;by_cases q7:(p.fdiv 5).fmod 8=7/\(q.fdiv 7).fmod 3=0
   .refine g1 ?_;have b7:((p.fdiv 5).fmod 8==7)=true:=by simpa using q7.1
    have c7:((q.fdiv 7).fmod 3==0)=true:=by simpa using q7.2
    refine⟨.doo ⟨[114,101,115,116].toArray⟩ [.doo ⟨[114,101,115,116].toArray⟩ [.nam x]],?_,xL (by kernel_rfl) (by kernel_rfl)<|xL (by kernel_rfl) (by kernel_rfl) fx,.doo (.tail _<|.head _)<|.doo (.tail _<|.head _)<|.nam mk⟩;exact bB [.c 2<|hq,.b 0<|hn,.b 1<|(eQ _ _).trans<|congrArg some b0,.v 2<|sq (a:=q) lk<|ic nz,.d 0<|hx,.b 0<|lF q3,.d 2<|hw,.b 0<|(eQ _ _).trans<|congrArg some b7,.b 3<|(eQ _ _).trans<|congrArg some c7]
   .refine g1 ?_;refine⟨.doo w [.nam x],?_,(xL ow.1.1 ow.1.2 fx).mono (by decide),.doo (eZ.mp ow.2)<|.nam mk⟩;by_cases r7:(p.fdiv 5).fmod 8=7
    .have b7:((p.fdiv 5).fmod 8==7)=true:=by simpa using r7
     have c7:((q.fdiv 7).fmod 3==0)=false:=by(have:¬((q.fdiv 7).fmod 3=0):=λh=>q7 ⟨r7,h⟩);simpa using this
     exact bB [.c 2<|hq,.b 0<|hn,.b 1<|(eQ _ _).trans<|congrArg some b0,.v 2<|sq (a:=q) lk<|ic nz,.d 0<|hx,.b 0<|lF q3,.d 2<|hw,.b 0<|(eQ _ _).trans<|congrArg some b7,.b 3<|(eQ _ _).trans<|congrArg some c7]
    .have b7:((p.fdiv 5).fmod 8==7)=false:=by simpa using r7
     exact bB [.c 2<|hq,.b 0<|hn,.b 1<|(eQ _ _).trans<|congrArg some b0,.v 2<|sq (a:=q) lk<|ic nz,.d 0<|hx,.b 0<|lF q3,.d 2<|hw,.b 0<|(eQ _ _).trans<|congrArg some b7]
structure Ra(G:List Hd) :Prop where
 ne:G≠ []
 wn:∀h∈G,h.wn.length=h.ps.length
 le:∀h∈G,h.ps.length<=6
noncomputable abbrev sN(l:Sd) :Slot:=.fz<|.list<|l.map .str
abbrev sH(l:List Hd) :Slot:=.fz<|.list<|l.map eW
noncomputable def lI(ns kn:Sd)(G:List Hd)(m e:Nat) :Prop:= ∀p:Int,n7 (λt=>cF P m 35 [.fz<|.int p,.fz<|.int e,sN ns,sN kn,sH G]=some (.ok<|.fz<|cz t,[])) (λt=>gX G kn ns (e+4) t)
theorem j5(a b:List T) :encs (a++b)=encs a++encs b:=by rw[j4,j4,j4];exact Er aY rfl
theorem ek(k:Nat)(h:k<=1000) :(if -1000000000<=(k:Int)/\(k:Int)<=(Sz:Int) then some (ji 0 (k:Int).toNat) else none)=some ((List.range k).map λ(k:Nat)=>PyData.int<|0+k):=by refine Er (if_pos ⟨by exact(Ln [k] (.i (.g<|.c 1000000000)<|.n .x) [] rfl),by show(k:Int)<=16777216;exact(Ln [k] (.i (.n .x)<|.c 16777216) [Gl .x<|.c 1000] rfl h)⟩) ?_;rw[cj];rfl
theorem vL{m e:Nat}(hF:lI ns kn G (m+1) e)(p:Int)(a1:Slot) :∀(ks:Sg)(SK:List T)(s7:Slot),SK.length+ks.length<=1000->Ai (λts=>dJ (ds<|m+1) [.fz<|.int p,a1,.fz<|.int e,sN ns,sN kn,sH G,.own<|.list<|encs SK,s7] (.one 7) Bk [7] (ks.map λ(k:Nat)=>.int<|0+k)=some (.ok .next,[.fz<|.int p,a1,.fz<|.int e,sN ns,sN kn,sH G,.own<|.list<|encs<|SK++ts,.no])) (λts=>ts.length=ks.length) (λts=> ∀t∈ts,gX G kn ns (e+4) t):=by intro ks;induction ks with
 | nil=>exact @λSK s7 j0_=>⟨[],by refine Er aZ ?_;rw[b4,aI];rfl,rfl,λt h=>by cases h⟩
 | cons k ks IH=>
  intro SK s7 hl;refine cX λSD g=>?_;refine aR (iB m<|p+7919*(0+(k:Int))) λq hq=>?_;obtain⟨t,ht,ft⟩:=hF q;obtain⟨ts,ih,hle,hf⟩:=IH (SK++[t]) (.fz<|.int<|0+k) (by simp only[aj,aD,dN]at *;omega);refine g ?_;refine⟨t::ts,?_,by exact Er aD<|Er aD<|Er hle rfl,λu hu=>?_⟩
  .have hm:=jS (a:=7919) (b:=0+(k:Int)) (by decide);have hz:(encs SK).length<Sz:=by rw[eM];simp only[aD]at hl;show SK.length<16777216;omega
   rw[j5,ah]at ih;exact Er ay<|gI [.v 0<|hm,.c 1<|hq,.c 0<|ht,.t 0<|ak hz,.lp 0<|ih]
  .rcases am.mp hu with rfl | hu
   .exact ft
   .exact hf u hu
theorem jO{m e:Nat}(hF:lI ns kn G (m+1) e)(p:Int)(many:Nat)(hm:many<=1000) :Ai (λts=>cF P (m+2) 32 [.fz<|.int p,.fz<|.int many,.fz<|.int e,sN ns,sN kn,sH G]=some (.ok<|.fz<|.tuple<|encs ts,[])) (λts=>ts.length=many) (λts=> ∀t∈ts,gX G kn ns (e+4) t):=by obtain⟨ts,ih,hl,hf⟩:=vL hF p (.fz<|.int many) (List.range many) [] .no (by refine Er aO ?_;show 0+many<=1000;exact(Ln [many] (.w (.a (.c 0) .x)<|.c 1000) [Gl .x<|.c 1000] rfl hm));rw[cK,show encs []=[] from rfl]at ih;refine⟨ts,?_,by exact Er hl<|Er aO rfl,hf⟩;exact bB [.l 0<|(dB _).trans<|ek many hm,.lp 0<|ih]
theorem rJ(l:Sp)(k:Nat)(h:k<l.length) :da (l.map PyData.bool) (0+(k:Int))=some (.bool<|l.getD k false):=by unfold da;rw[cy,if_pos<|cH _,cj,bn,bg];refine Er (aw h) ?_;rfl
noncomputable abbrev PP(kn:Sd)(ts:List T)(bs:Sp) :Prop:= ∀p∈ts.zip bs,p.2=true->Tm kn p.1
theorem PP.cons{t:T}{b:Bool}(h:b=true->Tm kn t)(r:PP kn ts bs) :PP kn (t::ts) (b::bs):=λp hp=>by
 rcases am.mp hp with rfl | hp
 .exact h
 .exact r p hp
theorem OH(l:Sp) :(List.range l.length).map (λk=>l.getD k false)=l:=by refine List.ext_getElem (by rw[ai];exact Er aO rfl) λi h1 h2=>?_;rw[List.getElem_map,List.getElem_range,bg];refine Er (aw h2) ?_;rfl
theorem z9(hk:∀x∈kn,x∈ns){m e:Nat}(hF:lI ns kn G (m+2) e)(p:Int)(h:Hd) :∀(ks:Sg)(SK:List T)(s7 s8:Slot),(∀k∈ks,k<h.wn.length)->SK.length+ks.length<=1000->PC (λts=>dJ (ds<|m+2) [.fz<|.int p,.fz<|.int e,sN ns,sN kn,sH G,.fz<|eW h,.own<|.list<|encs SK,s7,s8] (.one 7) Jq [7,8] (ks.map λ(k:Nat)=>.int<|0+k)=some (.ok .next,[.fz<|.int p,.fz<|.int e,sN ns,sN kn,sH G,.fz<|eW h,.own<|.list<|encs<|SK++ts,.no,.no])) (λts=>ts.length=ks.length) (λts=> ∀t∈ts,gX G kn ns (e+4) t) (λts=>PP kn ts<|ks.map λk=>h.wn.getD k false):=by intro ks;induction ks with
 | nil=>exact @λSK s7 s8 j0_ j1_=>⟨[],by refine Er aZ ?_;rw[b4,aI];rfl,rfl,(λt h=>by cases h),λp hp=>by cases hp⟩
 | cons k ks IH=>
  intro SK s7 s8 hw hl;refine cX λSD g=>?_;refine aR (iB (m+1)<|p+7919*(0+(k:Int))) λq hq=>?_;have hb:=rJ h.wn k<|hw k aa;have hbs:∀b,h.wn.getD k false=b->(k::ks).map (λk=>h.wn.getD k false)=b::ks.map λk=>h.wn.getD k false:=λb e=>by exact Er ay<|Er e rfl
  generalize h.wn.getD k false=b at hb hbs;have hz:(encs SK).length<Sz:=by rw[eM];simp only[aD]at hl;show SK.length<16777216;omega
  have hl':∀t:T,(SK++[t]).length+ks.length<=1000:=λt=>by simp only[aj,aD,dN]at *;omega
  cases b with
  | true=>
   refine g ?_;refine Er (hbs _ rfl) ?_;obtain⟨t,ht,Q⟩:=EU m q hk (G.map eW) G;obtain⟨ts,ih,hle,hf,hz2⟩:=IH (SK++[t]) (.fz<|.int<|0+k) (.fz<|.int q) (λj hj=>hw j<|ac _ hj)<|hl' t;refine⟨t::ts,?_,by exact Er aD<|Er aD<|Er hle rfl,λu hu=>?_,.cons (λj0_=>Q.2) hz2⟩
   .rw[j5,ah]at ih;exact Er ay<|gI [.v 0<|(jS (a:=7919) (b:=0+(k:Int)) (by decide)),.c 1<|hq,.d 1<|hb,.c 1<|ht,.t 0<|ak hz,.lp 0<|ih]
   .rcases am.mp hu with rfl | hu
    .exact Q.1.mono (Ln [e] (.w (.c 3)<|.p 4 .x) [] rfl)
    .exact hf u hu
  | false=>
   refine g ?_;refine Er (hbs _ rfl) ?_;obtain⟨t,ht,ft⟩:=hF q;obtain⟨ts,ih,hle,hf,hz2⟩:=IH (SK++[t]) (.fz<|.int<|0+k) (.fz<|.int q) (λj hj=>hw j<|ac _ hj)<|hl' t;refine⟨t::ts,?_,by rw[aD,aD,hle],λu hu=>?_,.cons (λe=>Bool.noConfusion e) hz2⟩
   .rw[j5,ah]at ih;exact Er ay<|gI [.v 0<|(jS (a:=7919) (b:=0+(k:Int)) (by decide)),.c 1<|hq,.d 1<|hb,.c 1<|ht,.t 0<|ak hz,.lp 0<|ih]
   .rcases am.mp hu with rfl | hu
    .exact ft
    .exact hf u hu
theorem Io(hk:∀x∈kn,x∈ns){m e:Nat}(hF:lI ns kn G (m+2) e)(hh:Ra G)(p:Int) :n7 (λt=>cF P (m+3) 33 [.fz<|.int p,.fz<|.int e,sN ns,sN kn,sH G]=some (.ok<|.fz<|cz t,[])) (λt=>gX G kn ns (e+5) t):=by
 have lk:(((G.map eW).length:Nat) :Int)=(G.length:Int):=by rw[ai]
 have nz:((G.length:Int)=0)=False:=by simp only[eq_iff_iff,iff_false];exact(λmvo13=>(Lf [G.length] [Gl (.p 1<|.c 0) .x,Gj (.n .x)<|.c 0] rfl (dH.mpr hh.ne) mvo13))
 have hm:=fm p G.length<|Ln [G.length] (.i (.p 1<|.c 0)<|.n .x) [Gl (.p 1<|.c 0) .x] rfl<|dH.mpr hh.ne;refine cX λSD g=>?_;obtain⟨x,hx,mx⟩:=eh (S:=G.map eW) (r:=p.fmod G.length) hm.1 (by refine Er lk ?_;exact hm.2);refine cX λG1 g1=>?_;obtain⟨h,mh,rfl⟩:=aH.mp mx;obtain⟨ts,ih,hl,hf,hz⟩:=z9 hk hF p h (List.range h.ps.length) [] .no .no (λk hk=>by refine Er (hh.wn h mh) ?_;exact aW.mp hk) (by refine Er aO ?_;show 0+h.ps.length<=1000;exact(Ln [h.ps.length] (.w (.a (.c 0) .x)<|.c 1000) [Gl .x<|.c 6] rfl<|hh.le h mh));rw[cK,show encs []=[] from rfl]at ih;rw[aO]at hl;refine g1 ?_;refine g ?_;refine⟨.call h.nm ts,?_,gX.call mh (hl.trans (hh.wn h mh).symm) (by rw[<- hh.wn h mh,OH]at hz;exact hz) hf⟩;have lp:(((h.ps.map PyData.str).length:Nat) :Int)=(h.ps.length:Int):=by rw[ai]
 exact bB [.v 1<|sq (a:=p) lk<|ic nz,.d 0<|hx,.l 2 (show di kZ.range [PyData.int (↑(List.map PyData.str h.ps).length:Int)]=some (List.map (λ(k:Nat)=>PyData.int<|(0:Int)+(↑k:Int))<|List.range h.ps.length) from lp▸(dB _).trans (ek h.ps.length<|Ln [h.ps.length] (.w .x<|.c 1000) [Gl .x<|.c 6] rfl<|hh.le h mh)),.lp 0<|ih]
abbrev O0:Sd:=[iK,iE,gW,hU,jm,jl,iL,cO,en,cP,ew,b6]
abbrev L6:Sd:=[cO,en,cP,ew]
def RC(w:Str) :Bool:=jY w&&(if gj w L6 then c8 w 1 && !decide (w=b6) else if w=b6 then true else c8 w 2)
theorem L5:O0.all RC=true:=by kernel_rfl
theorem Cs(x:Str) :Lm (.str x) (.tuple [(SC [102,105,114,115,116]),(SC [114,101,115,116]),(SC [101,109,112,116,121]),(SC [100,111,119,110])])=some (gj x L6):=oo x L6
theorem OY{m e:Nat}(hF:lI ns kn G (m+1) e)(hF0:lI ns kn G (m+1) 0)(p:Int) :n7 (λt=>cF P (m+3) 34 [.fz<|.int p,.fz<|.int e,sN ns,sN kn,sH G]=some (.ok<|.fz<|cz t,[])) (λt=>gX G kn ns (e+5) t):=by refine cX λG1 g1=>?_;obtain⟨x,hx,mx⟩:=eh (S:=O0.map PyData.str) (r:=p.fmod 12) (fm p 12 (by decide)).1 (fm p 12 (by decide)).2;refine cX λG4 g4=>?_;refine aR (aH.mp mx) λw Q=>?_;obtain rfl:=Q.2;have hx:=hx;have hw:=aB.mp L5 w Q.1;have h4:=Cs w;refine aR (iB (m+1) p) λq hq=>?_;unfold RC at hw;rw[az]at hw;cases q4:gj w L6 with
 | true=>
  refine g4 ?_;refine g1 ?_;rw[q4]at h4 hw;simp only[if_true,az,fJ,decide_eq_false_iff_not]at hw;refine cX λSD g=>?_;obtain⟨ts,ht,hl,hf⟩:=jO hF q 1 (by decide);refine g ?_;refine⟨.doo w ts,?_,gX.doo hw.1 (by refine Er hl ?_;exact hw.2.1) hf⟩;have nl:(w=b6)=False:=by simp only[eq_iff_iff,iff_false];exact hw.2.2
  exact bB [.d 1<|hx,.b 0<|h4,.b 1<|Nt<|ic nl,.c 3<|hq,.c 0<|ht]
 | false=>
  refine g4 ?_;refine g1 ?_;rw[q4]at h4 hw;simp only[gz,if_false]at hw;by_cases ql:w=b6
  .have tl:(w=b6)=True:=by simp only[ql]
   refine cX λG2 g2=>?_;obtain⟨y,hy,my⟩:=eh (S:=([0,1,2,3,8,5,1,2] :Sg).map λ(k:Nat)=>PyData.int k) (r:=(p.fdiv 12).fmod 8) (fm (p.fdiv 12) 8 (by decide)).1 (fm (p.fdiv 12) 8 (by decide)).2;refine cX λG3 g3=>?_;refine aR (aH.mp my) λk z=>?_;cases z.2;have mk:=z.1;have k8:k<=8:=by simp only[am,bc,fh]at mk;omega
   have tk:c8 w k=true:=by unfold c8;exact Er (if_pos ql)<|Er (ak (by exact(Ln [k] (.i (.n .x)<|.c 8) [Gl .x<|.c 8] rfl k8))) rfl
   by_cases q3:(3:Int)<k
   .refine g3 ?_;refine g2 ?_;obtain⟨ts,ht,hl,hf⟩:=jO hF0 q k<|Ln [k] (.w .x<|.c 1000) [Gl .x<|.c 8] rfl k8;refine⟨.doo w ts,?_,(gX.doo hw.1 (by refine Er hl ?_;exact tk) hf).mono<|Ln [e] (.w (.p 1<|.p 4<|.c 0)<|.p 5 .x) [] rfl⟩;exact bB [.d 1<|hx,.b 0<|h4,.b 1<|Nr<|of_eq_true tl,.d 3<|hy,.b 0<|Lx q3,.c 1<|hq,.c 0<|ht]
   .refine g3 ?_;refine g2 ?_;obtain⟨ts,ht,hl,hf⟩:=jO hF q k<|Ln [k] (.w .x<|.c 1000) [Gl .x<|.c 8] rfl k8;refine⟨.doo w ts,?_,gX.doo hw.1 (by refine Er hl ?_;exact tk) hf⟩;exact bB [.d 1<|hx,.b 0<|h4,.b 1<|Nr<|of_eq_true tl,.d 3<|hy,.b 0<|OG q3,.c 1<|hq,.c 0<|ht]
  .rw[if_neg ql]at hw;have nl:(w=b6)=False:=by simp only[eq_iff_iff,iff_false];exact ql
   obtain⟨ts,ht,hl,hf⟩:=jO hF q 2 (by decide);refine⟨.doo w ts,?_,gX.doo hw.1 (by refine Er hl ?_;exact hw.2) hf⟩;exact bB [.d 1<|hx,.b 0<|h4,.b 1<|Nt<|ic nl,.c 3<|hq,.c 0<|ht]
theorem qR(m e:Nat)(p:Int)(h:e=0\/(p.fdiv 3).fmod 13<3) :n7 (λt=>cF P (m+2) 35 [.fz<|.int p,.fz<|.int e,sN ns,sN kn,sH G]=some (.ok<|.fz<|cz t,[])) (λt=>gX G kn ns 1 t):=by
 refine aR (iB m p) λq hq=>?_;obtain⟨d,hd,hv⟩:=oL m<|q.fdiv 4;have hn:=Dk ns;have hor:∀(X No:Option (Se Rv×List Slot)),True:=λj0_ j1_=>trivial;have key:((e:Int)==0)=true\/(((e:Int)==0)=false/\(p.fdiv 3).fmod 13<3):=by
  by_cases q0:e=0
  .left;subst q0;rfl
  .right;refine⟨?_,h.resolve_left q0⟩;have:¬((e:Int)=0):=by exact(λmvo17=>(Or.elim (Nat.lt_or_gt_of_ne q0) (λmvs18=>(Lf [e] [Gk (.n .x)<|.c 0,Gl (.p 1 .x)<|.c 0] rfl mvo17 mvs18)) (λmvs18=>(Lf [e] [Gj (.n .x)<|.c 0,Gl (.p 1<|.c 0) .x] rfl mvo17 mvs18))))
   simpa using this
 by_cases qn:ns=[]
 .have hn:=(ak qn)▸hn;refine⟨.val d,?_,.val hv⟩;rcases key with k0 | ⟨k0,k3⟩
  .exact bB [.c 2<|hq,.b 0<|(eQ _ _).trans<|congrArg some k0,.b 2<|(pG _ _).trans<|congrArg (Option.map (!·)) hn,.c 3<|hd]
  .exact bB [.c 2<|hq,.b 0<|(eQ _ _).trans<|congrArg some k0,.b 1<|v5 k3,.b 1<|(pG _ _).trans<|congrArg (Option.map (!·)) hn,.c 3<|hd]
 .have hn:=(aA qn)▸hn;have lk:(((ns.map PyData.str).length:Nat) :Int)=(ns.length:Int):=by rw[ai]
  have nz:((ns.length:Int)=0)=False:=by simp only[eq_iff_iff,iff_false];exact(λmvo20=>(Lf [ns.length] [Gl (.p 1<|.c 0) .x,Gj (.n .x)<|.c 0] rfl (dH.mpr qn) mvo20))
  refine cX λSD g=>?_;obtain⟨x,hx,mx⟩:=eh (S:=ns.map PyData.str) (r:=(q.fdiv 4).fmod ns.length) (fm (q.fdiv 4) ns.length<|Ln [ns.length] (.i (.p 1<|.c 0)<|.n .x) [Gl (.p 1<|.c 0) .x] rfl<|dH.mpr qn).1 (by refine Er lk ?_;exact(fm (q.fdiv 4) ns.length<|Ln [ns.length] (.i (.p 1<|.c 0)<|.n .x) [Gl (.p 1<|.c 0) .x] rfl<|dH.mpr qn).2);refine aR (aH.mp mx) λx Q=>?_;obtain rfl:=Q.2;have mk:=Q.1;by_cases q4:0<q.fmod 4
  .refine g ?_;refine⟨.nam x,?_,.nam mk⟩;rcases key with k0 | ⟨k0,k3⟩
   .exact bB [.c 2<|hq,.b 0<|(eQ _ _).trans<|congrArg some k0,.b 2<|(pG _ _).trans<|congrArg (Option.map (!·)) hn,.b 2<|Lx q4,.v 3<|sq (a:=(q.fdiv (4:Int))) lk<|ic nz,.d 0<|hx]
   .exact bB [.c 2<|hq,.b 0<|(eQ _ _).trans<|congrArg some k0,.b 1<|v5 k3,.b 1<|(pG _ _).trans<|congrArg (Option.map (!·)) hn,.b 2<|Lx q4,.v 3<|sq (a:=(q.fdiv (4:Int))) lk<|ic nz,.d 0<|hx]
  .refine g ?_;refine⟨.val d,?_,.val hv⟩;rcases key with k0 | ⟨k0,k3⟩
   .exact bB [.c 2<|hq,.b 0<|(eQ _ _).trans<|congrArg some k0,.b 2<|(pG _ _).trans<|congrArg (Option.map (!·)) hn,.b 2<|OG q4,.c 2<|hd]
   .exact bB [.c 2<|hq,.b 0<|(eQ _ _).trans<|congrArg some k0,.b 1<|v5 k3,.b 1<|(pG _ _).trans<|congrArg (Option.map (!·)) hn,.b 2<|OG q4,.c 2<|hd]
theorem i5(hk:∀x∈kn,x∈ns)(hh:Ra G) :∀e m,3*e+3<=m->lI ns kn G m e
 | 0=>@λm hm p=>by
  obtain⟨k,rfl⟩ :∃k,m=k+2:=⟨m - 2,by omega⟩
  obtain⟨t,a,b⟩:=qR (ns:=ns) (kn:=kn) (G:=G) k 0 p<|.inl rfl;exact⟨t,a,b.mono<|Ln [] (.w (.c 1)<|.p 4<|.c 0) [] rfl⟩
 | e+1=>@λm hm p=>by
  obtain⟨k,rfl⟩ :∃k,m=k+4:=⟨m - 4,by omega⟩
  by_cases q3:(p.fdiv 3).fmod 13<3
  .obtain⟨t,a,b⟩:=qR (ns:=ns) (kn:=kn) (G:=G) (k+2) (e+1) p<|.inr q3;exact⟨t,a,b.mono<|Ln [e] (.w (.c 1)<|.p 4<|.p 1 .x) [] rfl⟩
  have k0:=RU e;have ee:((e+1:Nat) :Int) - 1=(e:Int):=by exact(jd (Ln [e] (.i (.s (.n<|.p 1 .x)<|.c 1)<|.n .x) [] rfl)<|Ln [e] (.i (.n .x)<|.s (.n<|.p 1 .x)<|.c 1) [] rfl)
  refine aR (iB (k+2) p) λq hq=>?_;by_cases q6:(p.fdiv 3).fmod 13<6
  .obtain⟨ts,ht,hl,hf⟩:=jO (ns:=ns) (m:=k+1) (i5 hk hh e (k+2) (by omega)) q 3 (by decide);have ht:cF P (k+3) 32 [.fz<|.int q,.fz<|.int 3,.fz<|.int e,sN ns,sN kn,sH G]=some (.ok<|.fz<|.tuple<|encs ts,[]):=ht;refine⟨.iff ts,?_,gX.iff hl hf⟩;have hz:([SC [105,102]] :Sb).length+(encs ts).length<=Sz:=by rw[eM];refine Er hl ?_;decide
   rw[<- ee]at ht;exact bB [.c 2<|hq,.b 2<|lF q3,.b 1<|v5 q6,.c 2<|ht,.v 0 (show op2 MA.add (PyData.tuple [PyData.str {cps:=#[(105:Nat),(102:Nat)]}]) (PyData.tuple<|encs ts)=some (Rv.fz<|PyData.tuple<|[PyData.str {cps:=#[(105:Nat),(102:Nat)]}]++encs ts) by simp only[mW,eq_true hz,if_true])]
  by_cases q9:(p.fdiv 3).fmod 13<9
  .refine cX λSD g=>?_;obtain⟨t,ht,hf⟩:=OY (ns:=ns) (m:=k) (i5 hk hh e (k+1) (by omega)) (i5 hk hh 0 (k+1) (by omega)) q;refine g ?_;refine⟨t,?_,hf⟩;rw[<- ee]at ht;exact bB [.c 2<|hq,.b 2<|lF q3,.b 1<|lF q6,.b 1<|v5 q9,.c 2<|ht]
  by_cases q12:(p.fdiv 3).fmod 13<12
  .obtain⟨t,ht,hf⟩:=Io (ns:=ns) hk (m:=k) (i5 hk hh e (k+2) (by omega)) hh q;refine⟨t,?_,hf⟩;rw[<- ee]at ht;exact bB [.c 2<|hq,.b 2<|lF q3,.b 1<|lF q6,.b 1<|lF q9,.b 1<|v5 q12,.c 2<|ht]
  have h6:=fm q 6 (by decide);refine cX λG1 g1=>?_;obtain⟨x,hx,mx⟩:=eh (S:=fy.map PyData.str) (r:=q.fmod 6) h6.1 h6.2;refine aR (aH.mp mx) λx Q=>?_;obtain rfl:=Q.2;refine g1 ?_;refine⟨.ref x,?_,(gX.ref Q.1).mono<|Ln [e] (.w (.c 1)<|.p 4<|.p 1 .x) [] rfl⟩;exact bB [.c 2<|hq,.b 2<|lF q3,.b 1<|lF q6,.b 1<|lF q9,.b 1<|lF q12,.d 2<|hx]
theorem BH{l:Sd}(nd:l.Nodup)(hi:i<l.length)(hj:j<l.length)(h:i≠j) :l.getD i ⟨#[]⟩≠l.getD j ⟨#[]⟩:=by
 refine Er bg<|Er bg<|Er (aw hi)<|Er (aw hj) ?_;have q:=List.pairwise_iff_getElem.mp nd;show l[i]≠l[j]
 rcases Nat.lt_or_gt_of_ne h with hlt | hlt
 .exact q _ _ hi hj hlt
 .exact λe=>q _ _ hj hi hlt e.symm
theorem yc{l:Sd}(hi:i<l.length) :l.getD i ⟨#[]⟩∈l:=
 Er bg (Er (aw hi)<|lQ hi)
theorem sJ{l:Sd}(hi:i<l.length) :da (l.map PyData.str) (i:Int)=some (.str<|l.getD i ⟨#[]⟩):=by unfold da;rw[if_pos<|cH _,cj,bn,bg];refine Er (aw hi) ?_;rfl
structure MD(l:Sd)(h:Hd) :Prop where
 wn:h.wn.length=h.ps.length
 le:h.ps.length<=6
 nd:h.ps.Nodup
 mem:∀x∈h.ps,x∈l
 kt:h.wn.count true<=2
abbrev Rq:Ex:=.idx d8<|SF (sc HM gi) m8
noncomputable abbrev FG(l:Sd)(k:Nat)(js:Sg) :Sd:=js.map λj=>l.getD ((2+k+j) % 12) ⟨#[]⟩
theorem xE(n:Nat)(l:Sd)(hl:l.length=12)(k:Nat)(a0 a2 a4 a5 a6 a7 a8:Slot) :∀(js:Sg)(s9:Slot),dC (ds n) [a0,sN l,a2,.fz<|.int<|0+k,a4,a5,a6,a7,a8,s9] Rq (.one 9) [] (js.map λ(j:Nat)=>.int<|0+j)=some (.ok<|(FG l k js).map .str,[a0,sN l,a2,.fz<|.int<|0+k,a4,a5,a6,a7,a8,.no]):=by intro js;induction js with
 | nil=>exact @λs9=>by refine Er aZ ?_;rw[cI];rfl
 | cons j js IH=>
  intro s9;have hx:da (l.map PyData.str) ((2+(0+(k:Int))+(0+(j:Int))).fmod 12)=some (.str<|l.getD ((2+k+j) % 12) ⟨#[]⟩):=by
   have e:(2+(0+(k:Int))+(0+(j:Int))).fmod 12=(((2+k+j) % 12:Nat) :Int):=by refine Er (pW _ (by decide)) ?_;rw[cy,cy,Int.natCast_emod,dO,dO];rfl
   exact Er e<|sJ (by refine Er hl ?_;exact lN _ (by decide))
  exact Er ay<|p9 [.d 3<|hx,.cp 0<|(IH<|.fz<|.int<|0+j)]
theorem Ab:∀l:Sp,jq (l.map .bool)=some l:=by intro l;induction l with
 | nil=>exact rfl
 | cons b l ih=>
  show(jq<|l.map .bool).map _=_
  refine Er ih ?_;rfl
theorem H9(h:SK.count true<=2) :(SK++[decide<|((SK.count true:Nat) :Int)<2]).count true<=2:=by
 refine Er List.count_append ?_;by_cases q:((SK.count true:Nat) :Int)<2
 .exact Er (ak q) (Nat.succ_le_of_lt<|kq.mp q)
 .exact Er (aA q) h
theorem EB(n:Nat)(c:Int)(a0 a1 a2 a3 a5 a9:Slot) :∀(js:Sg)(SK:Sp)(s7 s8:Slot),(∀j∈js,j<6)->SK.length+js.length<=1000->Ai (λbs=>dJ (ds n) [a0,a1,a2,a3,.fz<|.int c,a5,.own<|.list<|SK.map .bool,s7,s8,a9] (.one 7) PF [7,8] (js.map λ(j:Nat)=>.int<|0+j)=some (.ok .next,[a0,a1,a2,a3,.fz<|.int c,a5,.own<|.list<|(SK++bs).map .bool,.no,.no,a9])) (λbs=>bs.length=js.length) (λbs=>SK.count true<=2->(SK++bs).count true<=2):=by intro js;induction js with
 | nil=>exact @λSK s7 s8 j0_ j1_=>⟨[],by refine Er aZ ?_;rw[b4,aI];rfl,rfl,λh=>by rw[aI];exact h⟩
 | cons j js IH=>
  intro SK s7 s8 hj hl;refine cX λSD g=>?_;obtain⟨y,hy,my⟩:=eh (S:=[PyData.int 7,.int 14,.int 28,.int 56,.int 112,.int 224]) (r:=0+(j:Int)) (Ln [j] (.i (.c 0)<|.a (.c 0)<|.n .x) [] rfl) (by show _<(6:Int);exact(Ln [j] (.i (.p 1<|.a (.c 0)<|.n .x)<|.c 6) [Gl (.p 1 .x)<|.c 6] rfl<|hj j aa));have:∃z:Int,y = .int z/\(z≠0/\z.natAbs<2 ^ 64):=by simp only[am,bc,fh]at my;rcases my with rfl | rfl | rfl | rfl | rfl | rfl <;> exact⟨_,rfl,by decide,by decide⟩
  refine cX λG1 g1=>?_;obtain⟨z,this⟩:=this;obtain rfl:=this.1;have hsz:(SK.map PyData.bool).length<Sz:=by rw[ai];simp only[aD]at hl;show SK.length<16777216;omega
  have hl':∀b:Bool,(SK++[b]).length+js.length<=1000:=λb=>by simp only[aj,aD,dN]at *;omega
  by_cases qb:(c.fdiv z).fmod 2=1
  .refine g1 ?_;refine g ?_;obtain⟨bs,ih,hb,h2⟩:=IH (SK++[decide<|((SK.count true:Nat) :Int)<2]) (.fz<|.int<|0+j) (.fz<|.bool true) (λi hi=>hj i<|ac _ hi)<|hl' _;refine⟨decide (((SK.count true:Nat) :Int)<2)::bs,?_,by refine Er aD ?_;refine Er aD ?_;rw[hb],λh=>?_⟩;rotate_left
   .rw[ah]at h2;exact h2<|H9 h
   rw[aY,ah]at ih;exact gI [.d 0<|hy,.v 0 (show op2 MA.fdiv (PyData.int c) (PyData.int z)=some (Rv.fz<|PyData.int<|c.fdiv z) from Rz this.2),.b 1<|eqT qb,.v 1 (show DI (PyData.list<|List.map PyData.bool SK) true=some (Rv.fz<|PyData.int (↑(List.count true SK) :Int)) by simp only[Iv,(Ab SK),Option.map_some]),.b 0 (show bZ Cm.lt (PyData.int (↑(List.count true SK) :Int)) (PyData.int (2:Int))=some (decide<|(↑(List.count true SK) :Int)<(2:Int)) by simp only[DT]),.t 0<|ak hsz,.lp 0<|ih]
  .refine g1 ?_;refine g ?_;obtain⟨bs,ih,hb,h2⟩:=IH (SK++[false]) (.fz<|.int<|0+j) (.fz<|.bool false) (λi hi=>hj i<|ac _ hi)<|hl' _;refine⟨false::bs,?_,by refine Er aD ?_;refine Er aD ?_;rw[hb],λh=>?_⟩;rotate_left
   .rw[ah]at h2;exact h2 (by refine Er List.count_append ?_;exact h)
   rw[aY,ah]at ih;exact gI [.d 0<|hy,.v 0 (show op2 MA.fdiv (PyData.int c) (PyData.int z)=some (Rv.fz<|PyData.int<|c.fdiv z) from Rz this.2),.b 1<|MW qb,.t 1<|ak hsz,.lp 0<|ih]
abbrev I7:List St:=[fr 4<|.call 16 [cT,HM],
   fr 5 OT,
   fr 6 (.list []),
   .for_ (.one 7) .range [gp] PF [7,8],
   .app (.var 2) (.tup [(.idx d8 gA),(.bi .tuple [(.comp Rq (.one 9) .range [gp] [])]),HN])]
theorem zk(n:Nat)(S:Sm)(l:Sd)(hn:kU l) :∀(ks:Sg)(SK:List Hd)(s1 s3 s4 s5 s6 s7 s8 s9:Slot),(s1 = .own (.list<|l.map .str)\/s1=sN l)->(∀k∈ks,k<12)->SK.length+ks.length<=1000->MF (λG s1'=>dJ (ds<|n+1) [.fz<|.list<|S.map .int,s1,.own<|.list<|SK.map eW,s3,s4,s5,s6,s7,s8,.no] (.one 3) I7 [3,4,5,6,7,8] (ks.map λ(k:Nat)=>.int<|0+k)=some (.ok .next,[.fz<|.list<|S.map .int,s1',.own<|.list<|(SK++G).map eW,.no,.no,.no,.no,.no,.no,.no])) (λG s1'=>G.map (·.nm)=(ks.map λk=>l.getD k ⟨#[]⟩)) (λG s1'=> ∀h∈G,MD l h):=by intro ks;induction ks with
 | nil=>exact @λSK s1 s3 s4 s5 s6 s7 s8 s9 h1 j0_ j1_=>⟨[],s1,by refine Er aZ ?_;rw[b4,aI];rfl,rfl,λt h=>by cases h⟩
 | cons k ks IH=>
  intro SK s1 s3 s4 s5 s6 s7 s8 s9 h1 hk hl;refine cX λSD g=>?_;refine aR (cell n S (2+(0+(k:Int)))<|Ln [k] (.i (.c 0)<|.a (.c 2)<|.a (.c 0)<|.n .x) [] rfl) λc hc=>?_;refine cX λG1 g1=>?_;obtain⟨y,hy,my⟩:=eh (S:=([1,2,3,2,0,6,3] :Sg).map λ(k:Nat)=>PyData.int k) (r:=c.fmod 7) (fm c 7 (by decide)).1 (fm c 7 (by decide)).2;refine cX λG2 g2=>?_;refine aR (aH.mp my) λm Q=>?_;obtain rfl:=Q.2;have mm:=Q.1;have m6:m<=6:=by simp only[am,bc,fh]at mm;omega
  have hr:=ek m<|Ln [m] (.w .x<|.c 1000) [Gl .x<|.c 6] rfl m6;have hx:da (l.map PyData.str) (0+(k:Int))=some (.str<|l.getD k ⟨#[]⟩):=by rw[cy];exact sJ (by refine Er hn.len ?_;exact(hk k aa))
  have hsz:(SK.map eW).length<Sz:=by rw[ai];simp only[aD]at hl;show SK.length<16777216;omega
  have wl:∀a1 a2 a9, ∃bs:Sp,dJ (ds<|n+1) [.fz<|.list<|S.map .int,a1,a2,.fz<|.int<|0+k,.fz<|.int c,.fz<|.int m,.own<|.list [],.no,.no,a9] (.one 7) PF [7,8] ((List.range m).map λ(j:Nat)=>.int<|0+j)=some (.ok .next,[.fz<|.list<|S.map .int,a1,a2,.fz<|.int<|0+k,.fz<|.int c,.fz<|.int m,.own<|.list<|bs.map .bool,.no,.no,a9])/\bs.length=(List.range m).length/\bs.count true<=2:=λa1 a2 a9=>let ⟨bs,q1,q2,q3⟩:=EB (n+1) c (.fz<|.list<|S.map .int) a1 a2 (.fz<|.int<|0+k) (.fz<|.int m) a9 (List.range m) [] .no .no (λj hj=>by have:=aW.mp hj;exact(Ln [j,m] (.w (.p 1 .x)<|.c 6) [Gl .y<|.c 6,Gl (.p 1 .x) .y] rfl m6 this)) (by refine Er aO ?_;show 0+m<=1000;exact(Ln [m] (.w (.a (.c 0) .x)<|.c 1000) [Gl .x<|.c 6] rfl m6));⟨bs,q1,q2,q3<|ba _⟩
  refine aR (wl s1 (.own<|.list<|SK.map eW) .no) λbs q=>?_;have hok:MD l ⟨l.getD k ⟨#[]⟩,FG l k<|List.range m,bs⟩:=by
   refine⟨by refine Er q.2.1 ?_;rw[ai],by rw[ai];refine Er aO ?_;exact m6,?_,λx hx=>?_,q.2.2⟩
   .refine List.pairwise_map.mpr (List.Pairwise.imp_of_mem ?_ List.pairwise_lt_range);intro a b ha hb hab;have ha:=aW.mp ha;have hb:=aW.mp hb;exact BH hn.nd (by refine Er hn.len ?_;exact lN _ (by decide)) (by refine Er hn.len ?_;exact lN _ (by decide)) (by omega)
   .obtain⟨j,_,rfl⟩:=aH.mp hx;exact yc (by refine Er hn.len ?_;exact lN _ (by decide))
  obtain⟨G,s1',ih,hm,hf⟩:=IH (SK++[⟨l.getD k ⟨#[]⟩,FG l k<|List.range m,bs⟩]) (sN l) (.fz<|.int<|0+k) (.fz<|.int c) (.fz<|.int m) (.own<|.list<|bs.map .bool) .no .no .no (.inr rfl) (λj hj=>hk j<|ac _ hj) (by simp only[aj,aD,dN]at *;omega);refine g2 ?_;refine g1 ?_;refine g ?_;refine⟨⟨l.getD k ⟨#[]⟩,FG l k<|List.range m,bs⟩::G,s1',?_,by exact Er ay<|Er ay<|Er hm rfl,λh hh=>?_⟩
  .rw[aY,ah]at ih;refine Er ay ?_;rcases h1 with rfl | rfl
   .exact gI [.c 1<|hc,.d 1<|hy,.l 0 (show di kZ.range [PyData.int (↑m:Int)]=some (List.map (λ(k:Nat)=>PyData.int<|(0:Int)+(↑k:Int))<|List.range m) by simp only[dB,Int.reduceNeg,hr]),.lp 0<|q.1,.d 0<|hx,.l 0 (show di kZ.range [PyData.int (↑m:Int)]=some (List.map (λ(k:Nat)=>PyData.int<|(0:Int)+(↑k:Int))<|List.range m) by simp only[dB,Int.reduceNeg,hr]),.cp 0<|(xE (n+1) l hn.len k (.fz<|.list<|S.map .int) (.own<|.list<|SK.map eW) (.fz<|.int c) (.fz<|.int m) (.own<|.list<|bs.map .bool) .no .no (List.range m) .no),.t 2<|ak hsz,.lp 0<|ih]
   .exact gI [.c 1<|hc,.d 1<|hy,.l 0 (show di kZ.range [PyData.int (↑m:Int)]=some (List.map (λ(k:Nat)=>PyData.int<|(0:Int)+(↑k:Int))<|List.range m) by simp only[dB,Int.reduceNeg,hr]),.lp 0<|q.1,.d 0<|hx,.l 0 (show di kZ.range [PyData.int (↑m:Int)]=some (List.map (λ(k:Nat)=>PyData.int<|(0:Int)+(↑k:Int))<|List.range m) by simp only[dB,Int.reduceNeg,hr]),.cp 0<|(xE (n+1) l hn.len k (.fz<|.list<|S.map .int) (.own<|.list<|SK.map eW) (.fz<|.int c) (.fz<|.int m) (.own<|.list<|bs.map .bool) .no .no (List.range m) .no),.t 2<|ak hsz,.lp 0<|ih]
  .rcases am.mp hh with rfl | hh
   .exact hok
   .exact hf h hh
structure jA(l:Sd)(G:List Hd) :Prop where
 nm:kU l
 pos:1<=G.length
 le:G.length<=4
 nms:G.map (·.nm)=(List.range G.length).map λk=>l.getD k ⟨#[]⟩
 ok:∀h∈G,MD l h
theorem CD(n:Nat)(S:Sm) :∃l G r,cF P (n+2) 36 [.fz<|.list<|S.map .int]=some (.ok r,[])/\jA l G/\(r = .own (.list<|G.map eW)\/r = .fz (.list<|G.map eW)):=by
 refine cX λSD g=>?_;refine aR (cell n S 0 (by decide)) λc0 hc0=>?_;refine aR (cell n S 1 (by decide)) λc1 hc1=>?_;obtain⟨l,r,hr,hn,ho⟩:=BI n c0;have h4:=fm c1 4 (by decide);have e4:1+c1.fmod 4=(((1+c1.fmod 4).toNat:Nat) :Int):=by omega
 generalize hk:(1+c1.fmod 4).toNat=k at e4;have k4:1<=k/\k<=4:=by exact⟨(by omega),(by omega)⟩
 have fin:∀s1,(s1 = .own (.list<|l.map .str)\/s1=sN l)-> ∃(G:List Hd)(s1':Slot),dJ (ds<|n+1) [.fz<|.list<|S.map .int,s1,.own<|.list [],.no,.no,.no,.no,.no,.no,.no] (.one 3) I7 [3,4,5,6,7,8] ((List.range k).map λ(k:Nat)=>.int<|0+k)=some (.ok .next,[.fz<|.list<|S.map .int,s1',.own<|.list<|G.map eW,.no,.no,.no,.no,.no,.no,.no])/\jA l G:=λs1 h1=>by
  obtain⟨G,s1',ih,hm,hf⟩:=zk n S l hn (List.range k) [] s1 .no .no .no .no .no .no .no h1 (λj hj=>by have:=aW.mp hj;omega) (by refine Er aO ?_;show 0+k<=1000;exact(Ln [k] (.w (.a (.c 0) .x)<|.c 1000) [Gl .x<|.c 4] rfl (k4).2));have hl:G.length=k:=by have:=congrArg List.length hm;rw[ai,ai,aO]at this;exact this
  exact⟨G,s1',ih,hn,by exact(Ln [G.length,k] (.w (.c 1) .x) [Gl (.c 1) .y,Gf .x .y] rfl (k4).1 hl),by exact(Ln [G.length,k] (.w .x<|.c 4) [Gl .y<|.c 4,Ge .x .y] rfl (k4).2 hl),by refine Er hl ?_;exact hm,hf⟩
 rcases ho with rfl | rfl
 .refine g ?_;obtain⟨G,s1',ih,ok⟩:=fin (.own<|.list<|l.map .str)<|.inl rfl;refine⟨l,G,.fz<|.list<|G.map eW,?_,ok,.inr rfl⟩;exact bB [.c 0<|hc0,.c 0<|hr,.c 0<|hc1,.l 2 (show di kZ.range [PyData.int<|(1:Int)+c1.fmod (4:Int)]=some (List.map (λ(k:Nat)=>PyData.int<|(0:Int)+(↑k:Int))<|List.range k) by simp only[e4,dB,Int.reduceNeg,(ek k<|Ln [k] (.w .x<|.c 1000) [Gl .x<|.c 4] rfl (k4).2)]),.lp 0<|ih]
 .refine g ?_;obtain⟨G,s1',ih,ok⟩:=fin (sN l)<|.inr rfl;refine⟨l,G,.fz<|.list<|G.map eW,?_,ok,.inr rfl⟩;exact bB [.c 0<|hc0,.c 0<|hr,.c 0<|hc1,.l 2 (show di kZ.range [PyData.int<|(1:Int)+c1.fmod (4:Int)]=some (List.map (λ(k:Nat)=>PyData.int<|(0:Int)+(↑k:Int))<|List.range k) by simp only[e4,dB,Int.reduceNeg,(ek k<|Ln [k] (.w .x<|.c 1000) [Gl .x<|.c 4] rfl (k4).2)]),.lp 0<|ih]
theorem jA.nd{l:Sd}(h:jA l G) :(G.map (·.nm)).Nodup:=by refine Er h.nms ?_;refine List.pairwise_map.mpr<|List.Pairwise.imp_of_mem ?_ List.pairwise_lt_range;intro a b ha hb hab;have ha:=aW.mp ha;have hb:=aW.mp hb;have:=h.le;exact BH h.nm.nd (by refine Er h.nm.len ?_;omega) (by refine Er h.nm.len ?_;omega) (λmvo12=>(Lf [a,b] [Gl (.p 1 .x) .y,Gf .x .y] rfl hab mvo12))
theorem jA.mem{l:Sd}(h:jA l G) :∀x∈G.map (·.nm),x∈l:=by refine Er h.nms ?_;intro x hx;obtain⟨k,hk,rfl⟩:=aH.mp hx;have:=aW.mp hk;have:=h.le;exact yc (by refine Er h.nm.len ?_;omega)
theorem jA.hok{l:Sd}(h:jA l G) :Ra G:=⟨λe=>(by have:=h.pos;have this:=e▸this;cases this),λg hg=>(h.ok g hg).wn,λg hg=>(h.ok g hg).le⟩
noncomputable abbrev hd0:Hd:=⟨⟨#[]⟩,[],[]⟩
theorem QH{G:List Hd}{k:Nat}(hk:k<G.length) :da (G.map eW) (0+(k:Int))=some (eW<|G.getD k hd0)/\G.getD k hd0∈G:=by unfold da;rw[cy,if_pos<|cH _,cj,bn,bg];exact Er (aw hk)<|⟨rfl,lQ hk⟩
noncomputable def eL:Sd->Sp->Sd
 | x::ps,b::bs=>if b then x::eL ps bs else eL ps bs
 | _,_=>[]
noncomputable def wc(ps:Sd)(wn:Sp) :Sg->Sd
 | []=>[]
 | j::js=>if wn.getD j false then ps.getD j ⟨#[]⟩::wc ps wn js else wc ps wn js
theorem N5(x:Str)(ps:Sd)(b:Bool)(wn:Sp)(js:Sg) :wc (x::ps) (b::wn) (js.map (· + 1))=wc ps wn js:=by induction js with
 | nil=>rfl
 | cons j js ih=>
  show(if wn.getD j false then ps.getD j ⟨#[]⟩::wc (x::ps) (b::wn) (js.map (· + 1)) else wc (x::ps) (b::wn) (js.map (· + 1)))=_
  refine Er ih ?_;rfl
theorem GE:∀ps wn,wn.length=ps.length->wc ps wn (List.range ps.length)=eL ps wn:=by intro ps;induction ps with
 | nil=>intro wn _;rfl
 | cons x ps ih=>intro wn h;cases wn with
  | nil=>exact nomatch h
  | cons b wn=>
   refine Er aD<|Er List.range_succ_eq_map ?_;show(if b then x::wc (x::ps) (b::wn) ((List.range ps.length).map Nat.succ) else wc (x::ps) (b::wn) ((List.range ps.length).map Nat.succ))=if b then x::eL ps wn else eL ps wn
   exact Er (show wc (x::ps) (b::wn) ((List.range ps.length).map Nat.succ)=wc ps wn (List.range ps.length) from N5 x ps b wn _)<|Er (ih wn<|be h) rfl
theorem sF:∀{ps:Sd}{wn:Sp},(eL ps wn).Sublist ps:=by intro ps;induction ps with
 | nil=>intro wn;cases wn <;> exact List.Sublist.slnil
 | cons p ps ih=>intro wn;cases wn with
  | nil=>exact List.nil_sublist _
  | cons b wn=>cases b with
   | true=>exact(ih (wn:=wn)).cons_cons p
   | false=>exact(ih (wn:=wn)).cons p
theorem GC(n:Nat)(ps:Sd)(wn:Sp)(hw:wn.length=ps.length)(a0 a1 a2 a3 a4 a7 a8 a9 a10 a11:Slot) :∀(js:Sg)(s12:Slot),(∀j∈js,j<ps.length)->dC (ds n) [a0,a1,a2,a3,a4,.fz<|.tuple<|ps.map .str,.fz<|.tuple<|wn.map .bool,a7,a8,a9,a10,a11,s12] (.idx gp mP) (.one 12) [(.idx oh mP)] (js.map λ(j:Nat)=>.int<|0+j)=some (.ok<|(wc ps wn js).map .str,[a0,a1,a2,a3,a4,.fz<|.tuple<|ps.map .str,.fz<|.tuple<|wn.map .bool,a7,a8,a9,a10,a11,.no]):=by intro js;induction js with
 | nil=>exact @λs12 j0_=>by refine Er aZ ?_;rw[cI];rfl
 | cons j js IH=>
  intro s12 hj;have hb:=rJ wn j<|Ln [j,wn.length,ps.length] (.w (.p 1 .x) .y) [Gf .y .z,Gl (.p 1 .x) .z] rfl hw<|hj j aa;have hx:da (ps.map PyData.str) (0+(j:Int))=some (.str<|ps.getD j ⟨#[]⟩):=by rw[cy];exact sJ<|hj j aa
  have e:wc ps wn (j::js)=if wn.getD j false then ps.getD j ⟨#[]⟩::wc ps wn js else wc ps wn js:=rfl
  refine Er e ?_;generalize wn.getD j false=b at hb;cases b with
  | true=>exact Er ay<|p9 [.d 0<|hb,.d 1<|hx,.cp 0<|(IH (.fz<|.int<|0+j) λi hi=>hj i<|ac _ hi)]
  | false=>exact Er ay<|p9 [.d 0<|hb,.cp 1<|(IH (.fz<|.int<|0+j) λi hi=>hj i<|ac _ hi)]
inductive Ec(n:Nat)(S:Sm)(G:List Hd)(h:Hd)(k:Nat)(SK:List ij)(s3 s4 s5 s6 s7 s8 s9 s10 s11:Slot)(rest:Sb) :Prop
 | mk (t:T) (s4' s5' s6' s7' s8' s9' s10' s11':Slot) :gX G (eL h.ps h.wn) h.ps 8 t->(∀R,dJ (ds<|n+20) [.fz<|.list<|S.map .int,sH G,.own<|.list<|(SK++[(h,t)]).map nY,.fz<|.int<|0+k,s4',s5',s6',s7',s8',s9',s10',s11',.no] (.one 3) xF [3,4,5,6,7,8,9,10,11] rest=some R->dJ (ds<|n+20) [.fz<|.list<|S.map .int,sH G,.own<|.list<|SK.map nY,s3,s4,s5,s6,s7,s8,s9,s10,s11,.no] (.one 3) xF [3,4,5,6,7,8,9,10,11] (.int (0+k)::rest)=some R)->Ec n S G h k SK s3 s4 s5 s6 s7 s8 s9 s10 s11 rest
theorem RS(h:0<=r/\r<3) :∃e:Nat,1+r=(e:Int)/\e<=3:=by obtain⟨n,rfl⟩:=Int.eq_ofNat_of_zero_le h.1;exact⟨1+n,(dO 1 n).symm,cU 1 n▸kq.mp h.2⟩
theorem yP(n:Nat)(S:Sm){l:Sd}{G:List Hd}(hh:jA l G)(k:Nat)(hk:k<G.length)(SK:List ij)(hl:SK.length<=1000)(s3 s4 s5 s6 s7 s8 s9 s10 s11:Slot)(rest:Sb) :Ec n S G (G.getD k hd0) k SK s3 s4 s5 s6 s7 s8 s9 s10 s11 rest:=by
 refine cX λSD g=>?_;have z:=QH hk;generalize G.getD k hd0=h at *;refine cX λG1 g1=>?_;refine aR (cell (n+19) S (6+(0+(k:Int)))<|Ln [k] (.i (.c 0)<|.a (.c 6)<|.a (.c 0)<|.n .x) [] rfl) λc6 hc6=>?_;refine aR (cell (n+19) S 10 (by decide)) λc10 hc10=>?_;refine aR (cell (n+19) S 11 (by decide)) λc11 hc11=>?_;have hmu:=BL (a:=c6) (b:=977) (by decide);refine aR (iB (n+19)<|c6*977+(0+(k:Int))) λq hq=>?_;refine aR (iB (n+19)<|q+31) λq2 hq2=>?_;have hr:=ek h.ps.length (by have:=(hh.ok h z.2).le;exact(Ln [h.ps.length] (.w .x<|.c 1000) [Gl .x<|.c 6] rfl this));have lp:(((h.ps.map PyData.str).length:Nat) :Int)=(h.ps.length:Int):=by rw[ai]
 have hkn:=GC (n+20) h.ps h.wn (hh.ok h z.2).wn (.fz<|.list<|S.map .int) (sH G) (.own<|.list<|SK.map nY) (.fz<|.int<|0+k) (.fz<|.str h.nm) .no .no .no .no .no (List.range h.ps.length) .no λj hj=>aW.mp hj;rw[GE h.ps h.wn (hh.ok h z.2).wn]at hkn;obtain⟨kn,hke⟩ :∃kn,kn=eL h.ps h.wn:=⟨_,rfl⟩
 rw[<- hke]at hkn;have hks:∀x∈kn,x∈h.ps:=λx hx=>sF.subset<|hke▸hx;have cv:∀{u:T},gX G kn h.ps 8 u->gX G (eL h.ps h.wn) h.ps 8 u:=λh=>hke▸h;have k4:k<4:=by have:=hh.le;omega
 have dz:((0+(k:Int)+1≠0)/\(0+(k:Int)+1).natAbs<2 ^ 64):=⟨by exact(λmvo41=>(Lf [k] [Gj (.p 1<|.a (.c 0)<|.n .x)<|.c 0] rfl mvo41)),by omega⟩
 obtain⟨e,e3,e4⟩:=RS<|fm (c10.fdiv<|0+(k:Int)+1) 3 (by decide);obtain⟨t,ht,ft⟩:=i5 (ns:=h.ps) (kn:=kn) hks hh.hok e (n+20) (Ln [e,n] (.w (.p 3<|.m 3 .x)<|.p 20 .y) [(3,.w .x<|.c 3)] rfl e4) q;obtain⟨t2,ht2,ft2⟩:=i5 (ns:=h.ps) (kn:=kn) hks hh.hok 2 (n+20) (Ln [n] (.w (.p 3<|.m 3<|.c 2)<|.p 20 .x) [] rfl) q2;have hsz:(SK.map nY).length<Sz:=by rw[ai];show SK.length<16777216;exact(Ln [SK.length] (.w (.p 1 .x)<|.c 16777216) [Gl .x<|.c 1000] rfl hl)
 have f1:di .range [.int ((h.ps.map PyData.str).length:Int)]=some ((List.range h.ps.length).map λ(k:Nat)=>PyData.int<|0+k):=by exact Er lp<|(dB _).trans hr
 have f2:op2 .fdiv (.int c10) (.int<|0+(k:Int)+1)=some (.fz<|.int<|c10.fdiv<|0+(k:Int)+1):=(r6 _ _).trans<|if_pos dz;have f3:op2 .fdiv (.int c11) (.int<|0+(k:Int)+1)=some (.fz<|.int<|c11.fdiv<|0+(k:Int)+1):=(r6 _ _).trans<|if_pos dz;rw[<- e3]at ht;clear hr dz e3;refine cX λG5 g5=>?_;by_cases qa:0<(c11.fdiv<|0+(k:Int)+1).fmod 3
 .refine g5 ?_;refine g1 ?_;refine g ?_;by_cases qb:(0:Int)<(h.ps.length:Int)
  .have qp:=Lx (lp▸qb:(0:Int)<((h.ps.map PyData.str).length:Nat));have nz:=Int.ne_of_gt qb;refine cX λG2 g2=>?_;obtain⟨x,hx2,mx⟩:=eh (S:=h.ps.map PyData.str) (r:=q2.fmod h.ps.length) (fm q2 h.ps.length qb).1 (by refine Er lp ?_;exact(fm q2 h.ps.length qb).2);refine cX λG3 g3=>?_;refine aR (aH.mp mx) λx Q=>?_;obtain rfl:=Q.2;have three:∀u:T,gX G kn h.ps 2 u->gX G kn h.ps 8 (.iff [u,t,t2]):=λu fu=>gX.iff (d:=7) rfl λv hv=>by
    simp only[am,bc,fh]at hv;rcases hv with rfl | rfl | rfl
    .exact fu.mono (by decide)
    .exact ft.mono (Ln [e] (.w (.p 4 .x)<|.c 7) [Gl .x<|.c 3] rfl e4)
    .exact ft2.mono (by decide)
   refine cX λG4 g4=>?_;by_cases qc:(q2.fdiv 8).fmod 2=1
   .refine g4 ?_;refine g3 ?_;refine g2 ?_;refine⟨.iff [.doo cP [.nam x],t,t2],.fz<|.str h.nm,.fz<|eP h.ps,.fz<|.tuple<|h.wn.map .bool,.fz<|.list<|kn.map .str,.fz<|.int q,.fz<|cz<|.iff [.doo cP [.nam x],t,t2],.fz<|.int q2,.fz<|cz<|.doo cP [.nam x],cv<|three _<|xL (by kernel_rfl) (by kernel_rfl) (.nam Q.1:gX G kn h.ps 1 (.nam x)),λR hR=>?_⟩;rw[aY]at hR;exact gI [.d 0<|z.1,.l 1<|f1,.cp 0<|hkn,.c 1<|hc6,.v 0<|hmu,.c 1<|hq,.c 0<|hc10,.v 1<|f2,.c 3<|ht,.c 0<|hc11,.v 1<|f3,.b 1<|Lx qa,.b 2 qp,.c 2<|hq2,.v 1<|sq (a:=q2) lp nz,.d 0<|hx2,.b 2<|eqT qc,.c 2<|ht2,.t 0<|ak hsz,.lp 0<|hR]
   .refine g4 ?_;refine g3 ?_;refine g2 ?_;refine⟨.iff [.nam x,t,t2],.fz<|.str h.nm,.fz<|eP h.ps,.fz<|.tuple<|h.wn.map .bool,.fz<|.list<|kn.map .str,.fz<|.int q,.fz<|cz<|.iff [.nam x,t,t2],.fz<|.int q2,.fz<|cz<|.nam x,cv<|three _<|(.nam Q.1:gX G kn h.ps 1 (.nam x)).mono (by decide),λR hR=>?_⟩;rw[aY]at hR;exact gI [.d 0<|z.1,.l 1<|f1,.cp 0<|hkn,.c 1<|hc6,.v 0<|hmu,.c 1<|hq,.c 0<|hc10,.v 1<|f2,.c 3<|ht,.c 0<|hc11,.v 1<|f3,.b 1<|Lx qa,.b 2 qp,.c 2<|hq2,.v 1<|sq (a:=q2) lp nz,.d 0<|hx2,.b 2<|MW qc,.c 2<|ht2,.t 0<|ak hsz,.lp 0<|hR]
  .refine⟨t,.fz<|.str h.nm,.fz<|eP h.ps,.fz<|.tuple<|h.wn.map .bool,.fz<|.list<|kn.map .str,.fz<|.int q,.fz<|cz t,.no,.no,cv<|ft.mono<|Ln [e] (.w (.p 4 .x)<|.c 8) [Gl .x<|.c 3] rfl e4,λR hR=>?_⟩;rw[aY]at hR;exact gI [.d 0<|z.1,.l 1<|f1,.cp 0<|hkn,.c 1<|hc6,.v 0<|hmu,.c 1<|hq,.c 0<|hc10,.v 1<|f2,.c 3<|ht,.c 0<|hc11,.v 1<|f3,.b 1<|Lx qa,.b 2<|OG (lp▸qb:¬(0:Int)<((h.ps.map PyData.str).length:Nat)),.t 1<|ak hsz,.lp 0<|hR]
 .refine g5 ?_;refine g1 ?_;refine g ?_;refine⟨t,.fz<|.str h.nm,.fz<|eP h.ps,.fz<|.tuple<|h.wn.map .bool,.fz<|.list<|kn.map .str,.fz<|.int q,.fz<|cz t,.no,.no,cv<|ft.mono<|Ln [e] (.w (.p 4 .x)<|.c 8) [Gl .x<|.c 3] rfl e4,λR hR=>?_⟩;have hR:=aY▸hR;exact gI [.d 0<|z.1,.l 1<|f1,.cp 0<|hkn,.c 1<|hc6,.v 0<|hmu,.c 1<|hq,.c 0<|hc10,.v 1<|f2,.c 3<|ht,.c 0<|hc11,.v 1<|f3,.b 1<|OG qa,.t 2<|ak hsz,.lp 0<|hR]
theorem yQ(n:Nat)(S:Sm){l:Sd}(hh:jA l G) :∀(ks:Sg)(SK:List ij)(s3 s4 s5 s6 s7 s8 s9 s10 s11:Slot),(∀k∈ks,k<G.length)->SK.length+ks.length<=1000->Ai (λfs=>dJ (ds<|n+20) [.fz<|.list<|S.map .int,sH G,.own<|.list<|SK.map nY,s3,s4,s5,s6,s7,s8,s9,s10,s11,.no] (.one 3) xF [3,4,5,6,7,8,9,10,11] (ks.map λ(k:Nat)=>.int<|0+k)=some (.ok .next,[.fz<|.list<|S.map .int,sH G,.own<|.list<|(SK++fs).map nY,.no,.no,.no,.no,.no,.no,.no,.no,.no,.no])) (λfs=>fs.map (·.1)=ks.map λk=>G.getD k hd0) (λfs=> ∀f∈fs,gX G (eL f.1.ps f.1.wn) f.1.ps 8 f.2):=by intro ks;induction ks with
 | nil=>exact @λSK s3 s4 s5 s6 s7 s8 s9 s10 s11 j0_ j1_=>⟨[],by refine Er aZ ?_;rw[b4,aI];rfl,rfl,λf h=>by cases h⟩
 | cons k ks IH=>
  intro SK s3 s4 s5 s6 s7 s8 s9 s10 s11 hk hl;have hl:=aD▸hl;obtain⟨t,a4,a5,a6,a7,a8,a9,a10,a11,ft,st⟩:=yP n S hh k (hk k aa) SK (by omega) s3 s4 s5 s6 s7 s8 s9 s10 s11<|ks.map λ(k:Nat)=>.int<|0+k;obtain⟨fs,ih,hm,hf⟩:=IH (SK++[(G.getD k hd0,t)]) (.fz<|.int<|0+k) a4 a5 a6 a7 a8 a9 a10 a11 (λj hj=>hk j<|ac _ hj) (by refine Er aj ?_;show SK.length+1+ks.length<=1000;omega);refine⟨(G.getD k hd0,t)::fs,?_,by exact Er ay<|Er ay<|Er hm rfl,λf h=>?_⟩
  .rw[ah]at ih;exact st _ ih
  .rcases am.mp h with rfl | h
   .exact ft
   .exact hf f h
theorem yO(G:List Hd) :((List.range G.length).map λk=>G.getD k hd0)=G:=by
 apply List.ext_getElem?;intro i;refine Er bn ?_;by_cases q:i<G.length
 .refine Er (nR q) (Er (aw q) ?_);show some (G.getD i hd0)=some G[i]
  refine Er bg<|Er (aw q) ?_;rfl
 .rw[fk (by refine Er aO ?_;exact(bM.mp q)),fk<|bM.mp q];rfl
structure Pv(G:List Hd)(fs:List ij) :Prop where
 hd:fs.map (·.1)=G
 ok:∀f∈fs,gX G (eL f.1.ps f.1.wn) f.1.ps 8 f.2
theorem vJ(n:Nat)(S:Sm){l:Sd}(hh:jA l G) :n7 (λfs=>cF P (n+21) 37 [.fz<|.list<|S.map .int,sH G]=some (.ok<|.fz<|fM fs,[])) (λfs=>Pv G fs):=by
 obtain⟨fs,ih,hm,hf⟩:=yQ n S hh (List.range G.length) [] .no .no .no .no .no .no .no .no .no (λk hk=>aW.mp hk) (by refine Er aO ?_;show 0+G.length<=1000;exact(Ln [G.length] (.w (.a (.c 0) .x)<|.c 1000) [Gl .x<|.c 4] rfl hh.le));rw[yO]at hm;rw[aZ,cK]at ih;refine⟨fs,?_,hm,hf⟩;have lp:(((G.map eW).length:Nat) :Int)=(G.length:Int):=by rw[ai]
 exact bB [.l 1 (show di kZ.range [PyData.int (↑(List.map eW G).length:Int)]=some (List.map (λ(k:Nat)=>PyData.int<|(0:Int)+(↑k:Int))<|List.range G.length) from lp▸(dB _).trans (ek G.length<|Ln [G.length] (.w .x<|.c 1000) [Gl .x<|.c 4] rfl hh.le)),.lp 0<|ih]
mutual
theorem oi:∀d:D,gm d=true->noDict d=true/\d.depth=dep d
 | .int i,_=>⟨rfl,rfl⟩
 | .tuple V,h=>by have z:=nds_good V h;exact⟨z.1,congrArg (· + 1) z.2⟩
 | .none,h=>by cases h
 | .bool _,h=>by cases h
 | .str _,h=>by cases h
 | .list _,h=>by cases h
 | .dict _,h=>by cases h
theorem nds_good:∀V:Sb,goods V=true->noDicts V=true/\PyData.depthAll V=deps V
 | [],_=>⟨rfl,rfl⟩
 | d::V,h=>by
  have h:(gm d&&goods V)=true:=h;rw[az]at h;have Q:=oi d h.1;have q:=nds_good V h.2;refine⟨by show(noDict d&&noDicts V)=true;refine Er Q.1<|Er q.1 ?_;rfl,?_⟩;show max d.depth (PyData.depthAll V)=max (dep d) (deps V)
  exact Er Q.2<|Er q.2 rfl
end
mutual
theorem DF:∀d:D,dep d<=wt d
 | .tuple V=>by have:=deps_wts V;show deps V+1<=1+wts V;exact(Ln [deps V,wts V] (.w (.p 1 .x)<|.a (.c 1) .y) [Gl .x .y] rfl this)
 | .int _=>ba _
 | .none=>ba _
 | .bool _=>ba _
 | .str _=>ba _
 | .list _=>ba _
 | .dict _=>ba _
theorem deps_wts:∀V:Sb,deps V<=wts V
 | []=>aQ _
 | d::V=>by have h1:=DF d;have h2:=deps_wts V;show max (dep d) (deps V)<=wt d+wts V;exact jv.mpr ⟨by exact(Ln [dep d,wt d,wts V] (.w .x<|.a .y .z) [Gl .x .y] rfl h1),by exact(Ln [deps V,wt d,wts V] (.w .x<|.a .y .z) [Gl .x .z] rfl h2)⟩
end
structure Vg(d:D) :Prop where
 g:gm d=true
 w:wt d<=50
theorem Vg.dp{d:D}(h:Vg d) :dep d<=50:=af (DF d) h.w
theorem Vl.vg{d:D}(h:Vl d) :Vg d:=⟨h.1,h.2.2⟩
inductive VK(d:D) :Prop
 | int (i:Int) :d = .int i->i.natAbs<2 ^ 64->VK d
 | tup (t:Sb) :d = .tuple t->goods t=true->wts t<=49->VK d
theorem Vg.k{d:D}(h:Vg d) :VK d:=by obtain⟨a,c⟩:=h;cases d with
 | int i=>have a:gH i=true:=a;unfold gH at a;simp only[az,cC]at a;exact .int i rfl (by omega)
 | tuple t=>exact .tup t rfl a (by have:wt (.tuple t)=1+wts t:=rfl;omega)
 | none=>cases a
 | bool _=>cases a
 | str _=>cases a
 | list _=>cases a
 | dict _=>cases a
def dK(a b:D) :Bool:=(qU a b).getD false
theorem yg{x y:D}(hx:Vg x)(hy:Vg y) :qU x y=some (dK x y):=by
 have ok:mn x y=true:=by obtain⟨a,b⟩:=oi x hx.g;obtain⟨c,e⟩:=oi y hy.g;unfold mn;rw[a,c,ak (by rw[b,e];have:=hx.dp;omega)];rfl
 have:∃e,qU x y=some e:=by
  rcases hx.k with⟨a,rfl,_⟩ | ⟨s,rfl,_⟩ <;> rcases hy.k with⟨b,rfl,_⟩ | ⟨t,rfl,_⟩
  .exact⟨_,rfl⟩
  .exact⟨PyData.eqv (.int a)<|.tuple t,by show(if mn (.int a) (.tuple t)=true then _ else _)=_;rw[if_pos ok]⟩
  .exact⟨PyData.eqv (.tuple s)<|.int b,by show(if mn (.tuple s) (.int b)=true then _ else _)=_;rw[if_pos ok]⟩
  .exact⟨PyData.eqv (.tuple s)<|.tuple t,by show(if mn (.tuple s) (.tuple t)=true then _ else _)=_;rw[if_pos ok]⟩
 obtain⟨e,h⟩:=this;unfold dK;rw[h];rfl
noncomputable abbrev jD(r:Se D) :Option (Se Rv×List Mv.Slot):=match r with
 | .ok d=>some (.ok<|.fz d,[])
 | .error e=>some (.error e,[])
def qo(d:D) :Bool:=gm d&&decide (wt d<=50)
def eV(d:D) :Se D:=match qo d with
 | true=>.ok d
 | false=>.error bj
theorem Hk{d:D}(h:qo d=true) :Vg d:=by unfold qo at h;rw[az]at h;exact⟨h.1,aF h.2⟩
theorem wx(n:Nat)(d:D)(h:dep d<n) :cF P (n+2) 3 [.fz d]=jD (eV d):=by have e:=uA n d h;unfold eV;cases hf:qo d with
 | true=>have e:=e.trans<|Er (show(gm d&&decide (wt d<=50))=true from hf) rfl;exact bB [.c 0<|e]
 | false=>have e:=e.trans<|Er (show(gm d&&decide (wt d<=50))=false from hf) rfl;exact bB [.c 0<|e]
def r8(op:Str)(a b:Int) :Se D:=
 if op=iK then eV (.int<|a+b) else if op=iE then eV (.int<|a - b) else if op=gW then eV (.int<|a*b) else if op=jm then .ok (.int (if a<b then 1 else 0))
 else if b=0 then .error bf else eV (.int<|a.fdiv b)
def NP(op:Str) :D->D->Se D
 | .int a,.int b=>r8 op a b
 | _,_=>.error aS
def qY:D->Se D
 | .int a=>if a<1 then .error bN else .ok (.int<|a - 1)
 | _=>.error aS
def jV(op:Str) :D->Se D
 | .tuple []=>if op=cP then .ok (.int 1) else .error bq
 | .tuple (d::r)=>if op=cP then .ok (.int 0) else if op=cO then .ok d else .ok (.tuple r)
 | _=>.error bH
def xZ(a:D) :D->Se D
 | .tuple l=>eV<|.tuple (a::l)
 | _=>.error bH
def dn(op:Str)(O:Sb) :Se D:=if op=b6 then eV (.tuple O) else match O with
 | [a]=>if op=ew then qY a else jV op a
 | [a,b]=>if op=jl then .ok (.int (if dK a b then 1 else 0)) else if op=iL then xZ a b else NP op a b
 | _=>.error bj
theorem sC:∀t:Sb,t.length<=wts t:=by intro t;induction t with
 | nil=>exact aQ _
 | cons d t ih=>have h1:=ih;have h2:=rH d;show t.length+1<=wt d+wts t;omega
theorem nV{x k:Str}(h:x≠k) :bZ .eq (.str x) (.str k)=some false:=by rw[yo];exact Er (aA h) rfl
theorem NJ{x k:Str}(h:x=k) :bZ .eq (.str x) (.str k)=some true:=by rw[yo];exact Er (ak h) rfl
noncomputable abbrev vK(x:Str) :Slot:=.fz<|.str x
theorem NU(m:Nat)(op a b:D)(h:o8 .tup a=true\/(o8 .tup a=false/\o8 .tup b=true)) :cF P (m+1) 4 [.fz op,.fz a,.fz b]=jD (.error aS):=by
 rcases h with h | ⟨h,h'⟩
 .exact bB [.t 1<|h,.t 0<|h]
 .exact bB [.t 1<|h,.t 1<|h']
theorem F0(m:Nat)(a b:Int) :cF P (m+1) 4 [vK iK,.fz<|.int a,.fz<|.int b]=jD (.ok<|.int<|a+b):=by exact bB []
theorem BF(m:Nat)(a b:Int) :cF P (m+1) 4 [vK iE,.fz<|.int a,.fz<|.int b]=jD (.ok<|.int<|a - b):=by exact bB []
theorem BD(m:Nat)(a b:Int)(h:a.natAbs<2 ^ 64) :cF P (m+1) 4 [vK gW,.fz<|.int a,.fz<|.int b]=jD (.ok<|.int<|a*b):=
 bB [.v 10<|(jS h:op2 .mul (.int a) (.int b)=some (.fz<|.int<|a*b))]
theorem F4(m:Nat)(a b:Int) :cF P (m+1) 4 [vK jm,.fz<|.int a,.fz<|.int b]=jD (.ok<|.int (if a<b then 1 else 0)):=by
 by_cases q:a<b
 .exact Er (if_pos q) (bB [.b 12<|v5 q])
 .exact Er (if_neg q) (bB [.b 12<|lF q])
theorem BE(m:Nat)(a:Int) :cF P (m+1) 4 [vK hU,.fz<|.int a,.fz<|.int 0]=jD (.error bf):=by exact bB []
theorem F1(m:Nat)(a b:Int)(h:b.natAbs<2 ^ 64)(h0:b≠0) :cF P (m+1) 4 [vK hU,.fz<|.int a,.fz<|.int b]=jD (.ok<|.int<|a.fdiv b):=by
 have e:op2 .fdiv (.int a) (.int b)=some (.fz<|.int<|a.fdiv b):=by rw[r6];exact Er (if_pos ⟨h0,h⟩) rfl
 have q:bZ .eq (.int b) (.int 0)=some false:=by rw[j9];exact Er (aA h0) rfl
 exact bB [.b 12<|q,.v 1<|e]
structure nN(op:Str) :Prop where
 l:op≠b6
 d:op≠ew
 s:gj op tZ=false
 e:op≠jl
 j:op≠iL
theorem hY(n:Nat){op:Str}(h:nN op)(a b:D)(r:Se D)(h4:cF P (n+59) 4 [vK op,.fz a,.fz b]=jD r)(hd:∀v,r = .ok v->dep v=0) :cF P (n+60) 8 [vK op,.fz<|.list [a,b]]=jD (r.bind eV):=by have q1:=nV h.l;have q2:=nV h.d;have q4:=nV h.e;have q5:=nV h.j;have q3:=(Ll op).trans<|Er h.s rfl;cases r with
 | error e=>exact bB [.b 0<|q1,.b 1<|q2,.b 1<|q3,.b 1<|q4,.b 1<|q5,.c 3<|h4]
 | ok v=>
  have f:=wx (n+57) v (by refine Er (hd v rfl) ?_;exact Nat.succ_pos _);show _=jD (eV v)
  cases hf:eV v with
  | ok u=>rw[hf]at f;exact bB [.b 0<|q1,.b 1<|q2,.b 1<|q3,.b 1<|q4,.b 1<|q5,.c 3<|h4,.c 0<|f]
  | error e=>rw[hf]at f;exact bB [.b 0<|q1,.b 1<|q2,.b 1<|q3,.b 1<|q4,.b 1<|q5,.c 3<|h4,.c 0<|f]
theorem zQ(n:Nat)(O:Sb)(hd:deps O<=50) :cF P (n+60) 8 [vK b6,.fz<|.list O]=jD (eV<|.tuple O):=by have f:=wx (n+57) (.tuple O) (by show deps O+1<n+57;exact(Ln [deps O,n] (.w (.p 1<|.p 1 .x)<|.p 57 .y) [Gl .x<|.c 50] rfl hd));cases hf:eV (.tuple O) with
 | ok u=>rw[hf]at f;exact bB [.c 3<|f]
 | error e=>rw[hf]at f;exact bB [.c 3<|f]
theorem HZ(m:Nat)(a:D)(h:Vg a) :cF P (m+1) 5 [.fz a]=jD (qY a):=by
 rcases h.k with⟨i,rfl,_⟩ | ⟨t,rfl,_⟩
 .show _=jD (if i<1 then .error bN else .ok (.int<|i - 1))
  by_cases q:i<1
  .exact Er (if_pos q) (bB [.b 2<|v5 q])
  .exact Er (if_neg q) (bB [.b 2<|lF q])
 .exact bB []
theorem zS(n:Nat)(a:D)(h:Vg a) :cF P (n+60) 8 [vK ew,.fz<|.list [a]]=jD (qY a):=by have f:=HZ (n+58) a h;cases hf:qY a with
 | ok u=>rw[hf]at f;exact bB [.c 5<|f]
 | error e=>rw[hf]at f;exact bB [.c 5<|f]
theorem v8(m:Nat)(op:D)(i:Int) :cF P (m+1) 6 [.fz op,.fz<|.int i]=jD (.error bH):=by exact bB []
theorem B7(m:Nat)(t:Sb) :cF P (m+1) 6 [vK cP,.fz<|.tuple t]=jD (jV cP<|.tuple t):=by cases t with
 | nil=>show _=jD (.ok<|.int 1);exact bB []
 | cons d r=>
  have q:bZ .eq (.int ((d::r).length:Nat)) (.int 0)=some false:=by rw[eQ];exact congrArg some<|MS d r
  exact bB []
theorem B6(m:Nat)(t:Sb) :cF P (m+1) 6 [vK cO,.fz<|.tuple t]=jD (jV cO<|.tuple t):=by cases t with
 | nil=>show _=jD (.error bq);exact bB []
 | cons d r=>
  have q:bZ .eq (.int ((d::r).length:Nat)) (.int 0)=some false:=by rw[eQ];exact congrArg some<|MS d r
  exact bB []
theorem Gs(m:Nat)(t:Sb) :cF P (m+1) 6 [vK en,.fz<|.tuple t]=jD (jV en<|.tuple t):=by cases t with
 | nil=>show _=jD (.error bq);exact bB []
 | cons d r=>
  have q:bZ .eq (.int ((d::r).length:Nat)) (.int 0)=some false:=by rw[eQ];exact congrArg some<|MS d r
  exact bB [.v 10<|oP d r]
theorem j7(n:Nat){op:Str}(h1:op≠b6)(h2:op≠ew)(h3:gj op tZ=true)(a:D)(r:Se D)(f:cF P (n+59) 6 [vK op,.fz a]=jD r) :cF P (n+60) 8 [vK op,.fz<|.list [a]]=jD r:=by have q1:=nV h1;have q2:=nV h2;cases r with
 | ok u=>exact bB [.b 0<|q1,.b 1<|q2,.b 1<|((Ll op).trans (by rw[h3])),.c 2<|f]
 | error e=>exact bB [.b 0<|q1,.b 1<|q2,.b 1<|((Ll op).trans (by rw[h3])),.c 2<|f]
theorem zP(n:Nat)(a b:D)(ha:Vg a)(hb:Vg b) :cF P (n+60) 8 [vK jl,.fz<|.list [a,b]]=jD (.ok<|.int (if dK a b then 1 else 0)):=by have e:=yg ha hb;cases G:dK a b with
 | true=>rw[G]at e;show _=jD (.ok<|.int 1);exact bB [.b 10<|e]
 | false=>rw[G]at e;show _=jD (.ok<|.int 0);exact bB [.b 10<|e]
theorem GK(m:Nat)(a b:D)(hb:Vg b) :cF P (m+1) 7 [.fz a,.fz b]=jD (match b with | .tuple l=>.ok (.tuple (a::l)) | _=>.error bH):=by
 rcases hb.k with⟨i,rfl,_⟩ | ⟨t,rfl,_,hw⟩
 .exact bB []
 .have e:op2 .add (.tuple [a]) (.tuple t)=some (.fz<|.tuple (a::t)):=by
   show(if [a].length+t.length<=Sz then some (Rv.fz<|.tuple<|[a]++t) else none)=_
   refine Er (if_pos (by show 1+t.length<=16777216;exact(Ln [t.length] (.w (.a (.c 1) .x)<|.c 16777216) [Gl .x<|.c 49] rfl (af (sC t) hw:t.length<=49)))) ?_;rfl
  exact bB [.v 3<|e]
theorem zR(n:Nat)(a b:D)(ha:Vg a)(hb:Vg b) :cF P (n+60) 8 [vK iL,.fz<|.list [a,b]]=jD (xZ a b):=by
 have f:=GK (n+58) a b hb;rcases hb.k with⟨i,rfl,_⟩ | ⟨t,rfl,_,hw⟩
 .exact bB [.c 12<|f]
 .show _=jD (eV<|.tuple (a::t))
  have e:=wx (n+57) (.tuple (a::t)) (by have h1:=ha.dp;have h2:=af (deps_wts t) hw;exact(Ln [max (dep a)<|deps t,n] (.w (.p 1<|.p 1 .x)<|.p 57 .y) [Gl .x<|.c 50] rfl<|jv.mpr ⟨h1,by exact(Ln [deps t] (.w .x<|.c 50) [Gl .x<|.c 49] rfl h2)⟩));cases hf:eV (.tuple (a::t)) with
  | ok u=>rw[hf]at e;exact bB [.c 12<|f,.c 0<|e]
  | error x=>rw[hf]at e;exact bB [.c 12<|f,.c 0<|e]
theorem wU{op:Str}(h:nN op)(a b:D) :dn op [a,b]=NP op a b:=by unfold dn;refine Er (if_neg h.l) ?_;dsimp only;exact Er (if_neg h.e)<|Er (if_neg h.j) rfl
theorem xI:nN iK:=⟨by decide,by decide,by decide,by decide,by decide⟩
theorem uh:nN iE:=⟨by decide,by decide,by decide,by decide,by decide⟩
theorem ug:nN gW:=⟨by decide,by decide,by decide,by decide,by decide⟩
theorem xJ:nN jm:=⟨by decide,by decide,by decide,by decide,by decide⟩
theorem r4:nN hU:=⟨by decide,by decide,by decide,by decide,by decide⟩
theorem vW(a b:Int) :r8 iK a b=eV (.int<|a+b):=if_pos rfl
theorem sk(a b:Int) :r8 iE a b=eV (.int<|a - b):=(if_neg (by decide)).trans<|if_pos rfl
theorem sj(a b:Int) :r8 gW a b=eV (.int<|a*b):=(if_neg (by decide)).trans<|(if_neg (by decide)).trans<|if_pos rfl
theorem vY(a b:Int) :r8 jm a b = .ok (.int (if a<b then 1 else 0)):=(if_neg (by decide)).trans<|(if_neg (by decide)).trans<|(if_neg (by decide)).trans<|if_pos rfl
theorem vX(a b:Int) :r8 hU a b=if b=0 then .error bf else eV (.int<|a.fdiv b):=(if_neg (by decide)).trans<|(if_neg (by decide)).trans<|(if_neg (by decide)).trans<|if_neg (by decide)
theorem Je(a b:Int) :eV (.int (if a<b then 1 else 0)) = .ok (.int (if a<b then 1 else 0)):=by by_cases q:a<b <;> simp only[q,if_true,if_false] <;> rfl
inductive mH(op:Str) :Prop
 | plus:op=iK->mH op
 | minus:op=iE->mH op
 | times:op=gW->mH op
 | less:op=jm->mH op
 | over:op=hU->mH op
theorem mH.op{op:Str}(h:mH op) :nN op:=by
 rcases h with rfl | rfl | rfl | rfl | rfl
 .exact xI
 .exact uh
 .exact ug
 .exact xJ
 .exact r4
theorem FT(n:Nat){op:Str}(h:mH op)(a b:Int)(ha:a.natAbs<2 ^ 64)(hb:b.natAbs<2 ^ 64) :cF P (n+60) 8 [vK op,.fz<|.list [.int a,.int b]]=jD (r8 op a b):=by
 rcases h with rfl | rfl | rfl | rfl | rfl
 .rw[vW];exact hY n xI _ _ _ (F0 _ a b) λv e=>by refine Er (ky e).symm ?_;rfl
 .rw[sk];exact hY n uh _ _ _ (BF _ a b) λv e=>by refine Er (ky e).symm ?_;rfl
 .rw[sj];exact hY n ug _ _ _ (BD _ a b ha) λv e=>by refine Er (ky e).symm ?_;rfl
 .rw[vY,<- Je];exact hY n xJ _ _ _ (F4 _ a b) λv e=>by refine Er (ky e).symm ?_;rfl
 .rw[vX];by_cases q:b=0
  .subst q;exact Er (if_pos rfl) (hY n r4 _ _ _ (BE _ a) λv e=>by exact on e)
  .exact Er (if_neg q) (hY n r4 _ _ _ (F1 _ a b hb q) λv e=>by refine Er (ky e).symm ?_;rfl)
theorem vR(n:Nat){op:Str}(h:mH op)(a b:D)(hh:o8 .tup a=true\/(o8 .tup a=false/\o8 .tup b=true)) :cF P (n+60) 8 [vK op,.fz<|.list [a,b]]=jD (.error aS):=
 hY n h.op _ _ _ (NU _ _ a b hh) λv e=>by exact on e
inductive II(op:Str) :Prop
 | num:mH op->II op
 | same:op=jl->II op
 | join:op=iL->II op
 | down:op=ew->II op
 | first:op=cO->II op
 | rest:op=en->II op
 | empty:op=cP->II op
 | list:op=b6->II op
theorem Qm{op:Str}(h:jY op=true) :II op:=by
 unfold jY at h;rcases fX.mp h with h | h
 .have:=eZ.mp h
  simp only[am,bc,fh]at this;rcases this with rfl | rfl | rfl | rfl | rfl | rfl | rfl
  .exact .num (.plus rfl)
  .exact .num (.minus rfl)
  .exact .num (.times rfl)
  .exact .num (.over rfl)
  .exact .num (.less rfl)
  .exact .same rfl
  .exact .join rfl
 .refine cX λSD g=>?_;rcases fX.mp h with h | h
  .refine g ?_;have:=eZ.mp h;simp only[am,bc,fh]at this;rcases this with rfl | rfl | rfl | rfl
   .exact .down rfl
   .exact .first rfl
   .exact .rest rfl
   .exact .empty rfl
  .exact g (.list<|aF h)
theorem iH{op:Str}{k:Nat}(h:c8 op k=true)(h1:op≠b6)(h2:gj op mV=true) :k=2:=by unfold c8 at h;rw[if_neg h1,if_pos h2]at h;have:=eq_of_beq h;omega
theorem gq{op:Str}{k:Nat}(h:c8 op k=true)(h1:op≠b6)(h2:gj op mV=false) :k=1:=by unfold c8 at h;rw[if_neg h1,if_neg (by refine Er h2 ?_;decide)]at h;have:=eq_of_beq h;omega
theorem P9{O:Sb}(h:∀v∈O,Vg v) :goods O=true/\deps O<=50:=by induction O with
 | nil=>exact⟨rfl,ba _⟩
 | cons d V ih=>have q:=ih λx hx=>h x<|ac _ hx;exact⟨by show(gm d&&goods V)=true;refine Er q.1<|Er (h d aa).g ?_;rfl,jv.mpr ⟨(h d aa).dp,q.2⟩⟩
theorem two{O:Sb}(h:∀d∈O,Vg d)(hl:O.length=2) :∃x y,O=[x,y]/\Vg x/\Vg y:=by refine kL (N3 hl) λx y q=>?_;subst q;exact⟨x,y,rfl,h x<|.head _,h y<|.tail _<|.head _⟩
theorem one{O:Sb}(h:∀d∈O,Vg d)(hl:O.length=1) :∃x,O=[x]/\Vg x:=by refine aR (N4 hl) λx q=>?_;subst q;exact⟨x,rfl,h x<|.head _⟩
theorem te(O:Sb) :dn b6 O=eV (.tuple O):=if_pos rfl
theorem ti(a:D) :dn ew [a]=qY a:=(if_neg (by decide)).trans<|if_pos rfl
theorem pq(a:D) :dn cO [a]=jV cO a:=(if_neg (by decide)).trans<|if_neg (by decide)
theorem td(a:D) :dn en [a]=jV en a:=(if_neg (by decide)).trans<|if_neg (by decide)
theorem pu(a:D) :dn cP [a]=jV cP a:=(if_neg (by decide)).trans<|if_neg (by decide)
theorem tc(a b:D) :dn jl [a,b] = .ok (.int (if dK a b then 1 else 0)):=(if_neg (by decide)).trans<|if_pos rfl
theorem th(a b:D) :dn iL [a,b]=xZ a b:=(if_neg (by decide)).trans<|(if_neg (by decide)).trans<|if_pos rfl
theorem mH.pair{op:Str}(h:mH op) :gj op mV=true:=by rcases h with rfl | rfl | rfl | rfl | rfl <;> decide
theorem yi(n:Nat){op:Str}{O:Sb}(ho:jY op=true)(hl:c8 op O.length=true)(hv:∀v∈O,Vg v) :cF P (n+60) 8 [vK op,.fz<|.list O]=jD (dn op O):=by
 rcases Qm ho with h | rfl | rfl | rfl | rfl | rfl | rfl | rfl
 .obtain⟨a,b,rfl,ha,hb⟩:=two hv<|iH hl h.op.l h.pair;rw[wU h.op];rcases ha.k with⟨i,rfl,hi⟩ | ⟨s,rfl,_⟩ <;> rcases hb.k with⟨j,rfl,hj⟩ | ⟨t,rfl,_⟩
  .exact FT n h i j hi hj
  .exact vR n h _ _ (.inr ⟨rfl,rfl⟩)
  .exact vR n h _ _ (.inl rfl)
  .exact vR n h _ _ (.inl rfl)
 .obtain⟨a,b,rfl,ha,hb⟩:=two hv<|iH hl (by decide) (by decide);rw[tc];exact zP n a b ha hb
 .obtain⟨a,b,rfl,ha,hb⟩:=two hv<|iH hl (by decide) (by decide);rw[th];exact zR n a b ha hb
 .obtain⟨a,rfl,ha⟩:=one hv<|gq hl (by decide) (by decide);rw[ti];exact zS n a ha
 .obtain⟨a,rfl,ha⟩:=one hv<|gq hl (by decide) (by decide);rw[pq];refine j7 n (by decide) (by decide) (by decide) a _ ?_;rcases ha.k with⟨i,rfl,hi⟩ | ⟨s,rfl,_⟩
  .exact v8 _ _ i
  .exact B6 _ s
 .obtain⟨a,rfl,ha⟩:=one hv<|gq hl (by decide) (by decide);rw[td];refine j7 n (by decide) (by decide) (by decide) a _ ?_;rcases ha.k with⟨i,rfl,hi⟩ | ⟨s,rfl,_⟩
  .exact v8 _ _ i
  .exact Gs _ s
 .obtain⟨a,rfl,ha⟩:=one hv<|gq hl (by decide) (by decide);rw[pu];refine j7 n (by decide) (by decide) (by decide) a _ ?_;rcases ha.k with⟨i,rfl,hi⟩ | ⟨s,rfl,_⟩
  .exact v8 _ _ i
  .exact B7 _ s
 .rw[te];exact zQ n O (P9 hv).2
noncomputable abbrev gK(d:D) :Option (Se Rv×List Mv.Slot):=some (.ok<|.fz d,[])
noncomputable abbrev eG(r:Se D) :D:=match r with
 | .ok d=>.tuple [.bool true,d]
 | .error e=>.tuple [.bool false,.str e]
theorem JD(n:Nat)(a0:Slot)(ih:∀d:D,dep d<n->cF P n 20 [.fz d]=gK (.int<|wt d)) :∀V s1,deps V<n->
  dC (ds n) [a0,s1] (.call 20 [d8]) (.one 1) [] V=some (.ok<|V.map λd=>.int<|wt d,[a0,.no]):=by
 intro V;induction V with
 | nil=>exact @λs1 j0_=>by rw[cI];rfl
 | cons d V IH=>intro s1 h;have h:max (dep d) (deps V)<n:=h;have q:=IH (.fz d)<|aL (lO _ _) h;have e:=ih d<|aL (nB _ _) h;rw[ay];exact p9 [.c 0<|e,.cp 0<|q]
theorem EW:∀V a,vz a (V.map λd=>.int<|wt d)=some (.int<|a+wts V):=by intro V;induction V with
 | nil=>exact @λa=>by show some (PyData.int a)=some (.int<|a+((0:Nat) :Int));rw[Int.natCast_zero,dE]
 | cons d V ih=>
  intro a;show vz (a+wt d) _=some (.int<|a+((wt d+wts V:Nat) :Int))
  rw[ih,dO,Int.add_assoc]
theorem yz:∀n d,dep d<n->cF P n 20 [.fz d]=gK (.int<|wt d):=by intro n;induction n with
 | zero=>intro d h;exact absurd h<|nu _
 | succ n ih=>intro d h;cases d with
  | tuple V=>
   have e:pI .sum [.list<|V.map λd=>.int<|wt d]=some (.fz<|.int<|wts V):=by rw[Pd,EW,cy];rfl
   have e':op2 .add (.int 1) (.int<|wts V)=some (.fz<|.int<|wt<|.tuple V):=by
    show some (Rv.fz<|.int<|1+(wts V:Int))=some (.fz<|.int ((1+wts V:Nat) :Int))
    rw[dO];rfl
   exact bB [.cp 3<|(JD n (.fz<|.tuple V) ih V .no<|Nat.lt_of_succ_lt_succ h),.v 0<|e,.v 0<|e']
  | int i=>show _=gK (.int 1);exact bB []
  | none=>show _=gK (.int 1);exact bB []
  | bool b=>show _=gK (.int 1);exact bB []
  | str b=>show _=gK (.int 1);exact bB []
  | list b=>show _=gK (.int 1);exact bB []
  | dict b=>show _=gK (.int 1);exact bB []
theorem uF{d:D}(h:qo d=true) :eV d = .ok d:=by unfold eV;rw[h]
theorem uG{d:D}(h:qo d=false) :eV d = .error bj:=by unfold eV;rw[h]
theorem uv(n:Nat)(V:Sb)(hg:goods V=true)(hd:deps V<=50) :cF P (n+53) 21 [.fz<|.tuple V]=gK (eG<|eV<|.tuple V):=by
 have e:=yz (n+52) (.tuple V) (by show deps V+1<n+52;exact(Ln [deps V,n] (.w (.p 1<|.p 1 .x)<|.p 52 .y) [Gl .x<|.c 50] rfl hd));have hb:qo (.tuple V)=decide (wt (.tuple V)<=50):=by show(goods V&&_)=_;refine Er hg ?_;rfl
 by_cases q:wt (.tuple V)<=50
 .refine Er (uF<|hb.trans<|ak q) ?_;have q1:bZ .le (.int<|wt<|.tuple V) (.int 50)=some true:=by rw[Is,ak (by exact(Ln [wt<|PyData.tuple V] (.i (.n .x)<|.c 50) [Gl .x<|.c 50] rfl q))]
  have q2:bZ .gt (.int<|wt<|.tuple V) (.int 50)=some false:=by rw[tq,aA (by exact(λmvo9=>(Lf [wt<|PyData.tuple V] [Gl .x<|.c 50,Gi (.p 1<|.c 50)<|.n .x] rfl q mvo9)))]
  exact bB [.c 2<|e,.b 0<|q1,.c 0<|e,.b 0<|q2]
 .refine Er (uG<|hb.trans<|aA q) ?_;have q1:bZ .le (.int<|wt<|.tuple V) (.int 50)=some false:=by rw[Is,aA (by exact(λmvo8=>(Lf [wt<|PyData.tuple V] [Gl (.p 1<|.c 50) .x,Gi (.n .x)<|.c 50] rfl (pR.mp q) mvo8)))]
  have q2:bZ .gt (.int<|wt<|.tuple V) (.int 50)=some true:=by rw[tq,ak (by omega)]
  exact bB [.c 2<|e,.b 0<|q1,.c 0<|e,.b 0<|q2]
theorem mj(m:Nat)(i:Int) :cF P (m+1) 21 [.fz<|.int i]=gK (eG<|eV<|.int i):=by
 have hb:qo (.int i)=decide ((i.natAbs:Int)<1000000000000000000):=by
  show(gH i&&decide ((1:Nat)<=50))=_
  unfold gH;by_cases q:(i.natAbs:Int)<1000000000000000000
  .rw[ak q];refine Er (ak (by omega)) ?_;refine Er (ak (by omega)) ?_;rfl
  .rw[aA q];by_cases q1: -1000000000000000000<i
   .refine Er (aA (p:=i<1000000000000000000) (λmvo5=>(by omega))) ?_;rw[Bool.and_false];rfl
   .refine Er (aA q1) ?_;rfl
 have e0:=Pe i;generalize ha:(i.natAbs:Int)=a at hb e0;clear ha;by_cases q:a<1000000000000000000
 .refine Er (uF<|hb.trans<|ak q) ?_;have q1:bZ .lt (.int a) (.int 1000000000000000000)=some true:=by rw[DT,ak q]
  have q2:bZ .ge (.int a) (.int 1000000000000000000)=some false:=by rw[Mj,aA (by exact(λmvo8=>(qj [] [a] [Gi (.p 1 .x)<|.c 1000000000000000000,Gi (.c 1000000000000000000) .x] rfl q mvo8)))]
  exact bB [.v 2<|e0,.b 1<|q1,.v 0<|e0,.b 1<|q2]
 .refine Er (uG<|hb.trans<|aA q) ?_;have q1:bZ .lt (.int a) (.int 1000000000000000000)=some false:=by rw[DT,aA q]
  have q2:bZ .ge (.int a) (.int 1000000000000000000)=some true:=by rw[Mj,ak (by omega)]
  exact bB [.v 2<|e0,.b 1<|q1,.v 0<|e0,.b 1<|q2]
theorem Ca(m:Nat)(op a b:D)(h:o8 .tup a=true\/(o8 .tup a=false/\o8 .tup b=true)) :cF P (m+1) 22 [.fz op,.fz a,.fz b]=gK (eG<|.error aS):=by
 rcases h with h | ⟨h,h'⟩
 .exact bB [.t 1<|h,.t 0<|h]
 .exact bB [.t 1<|h,.t 1<|h']
theorem B9(m:Nat)(a:Int) :cF P (m+1) 22 [vK hU,.fz<|.int a,.fz<|.int 0]=gK (eG<|.error bf):=by exact bB []
theorem Gy(m:Nat)(a b:Int)(h:b.natAbs<2 ^ 64)(h0:b≠0) :cF P (m+2) 22 [vK hU,.fz<|.int a,.fz<|.int b]=gK (eG<|eV<|.int<|a.fdiv b):=by
 have e:op2 .fdiv (.int a) (.int b)=some (.fz<|.int<|a.fdiv b):=by rw[r6];exact Er (if_pos ⟨h0,h⟩) rfl
 have q:bZ .eq (.int b) (.int 0)=some false:=by rw[j9];exact Er (aA h0) rfl
 exact bB [.b 6<|q,.v 1<|e,.c 0<|(mj m<|a.fdiv b)]
theorem Gz(m:Nat)(a b:Int) :cF P (m+1) 22 [vK jm,.fz<|.int a,.fz<|.int b]=gK (eG<|.ok<|.int (if a<b then 1 else 0)):=by
 by_cases q:a<b
 .exact Er (if_pos q) (bB [.b 8<|v5 q])
 .exact Er (if_neg q) (bB [.b 8<|lF q])
theorem Gx(m:Nat)(a b:Int)(h:a.natAbs<2 ^ 64) :cF P (m+2) 22 [vK iK,.fz<|.int a,.fz<|.int b]=gK (eG<|eV<|.int<|a+b):=
 bB [.v 10<|(jS h:op2 .mul (.int a) (.int b)=some (.fz<|.int<|a*b)),.c 1<|(mj m<|a+b)]
theorem Cb(m:Nat)(a b:Int)(h:a.natAbs<2 ^ 64) :cF P (m+2) 22 [vK iE,.fz<|.int a,.fz<|.int b]=gK (eG<|eV<|.int<|a - b):=
 bB [.v 10<|(jS h:op2 .mul (.int a) (.int b)=some (.fz<|.int<|a*b)),.c 1<|(mj m<|a - b)]
theorem B8(m:Nat)(a b:Int)(h:a.natAbs<2 ^ 64) :cF P (m+2) 22 [vK gW,.fz<|.int a,.fz<|.int b]=gK (eG<|eV<|.int<|a*b):=
 bB [.v 10<|(jS h:op2 .mul (.int a) (.int b)=some (.fz<|.int<|a*b)),.c 1<|(mj m<|a*b)]
theorem K7(m:Nat){op:Str}(h:mH op)(a b:Int)(ha:a.natAbs<2 ^ 64)(hb:b.natAbs<2 ^ 64) :cF P (m+2) 22 [vK op,.fz<|.int a,.fz<|.int b]=gK (eG<|r8 op a b):=by
 rcases h with rfl | rfl | rfl | rfl | rfl
 .rw[vW];exact Gx m a b ha
 .rw[sk];exact Cb m a b ha
 .rw[sj];exact B8 m a b ha
 .rw[vY];exact Gz _ a b
 .rw[vX];by_cases q:b=0
  .subst q;exact Er (if_pos rfl)<|B9 _ a
  .exact Er (if_neg q) (Gy m a b hb q)
theorem Gc(m:Nat)(a:D)(h:Vg a) :cF P (m+1) 23 [vK ew,.fz a]=gK (eG<|qY a):=by
 rcases h.k with⟨i,rfl,_⟩ | ⟨t,rfl,_⟩
 .show _=gK (eG (if i<1 then .error bN else .ok (.int<|i - 1)))
  by_cases q:i<1
  .refine Er (if_pos q) ?_;have q1:bZ .gt (.int i) (.int 0)=some false:=by rw[tq,aA (by exact(λmvo6=>(qj [] [i] [Gi (.p 1 .x)<|.c 1,Gi (.p 1<|.c 0) .x] rfl q mvo6)))]
   have q2:bZ .le (.int i) (.int 0)=some true:=by rw[Is,ak (by exact(Li [i] (.i .x<|.c 0) [Gi (.p 1 .x)<|.c 1] rfl q))]
   exact bB [.b 4<|q1,.b 1<|q2]
  .refine Er (if_neg q) ?_;have q1:bZ .gt (.int i) (.int 0)=some true:=by rw[tq,ak (by exact(Li [i] (.i (.p 1<|.c 0) .x) [Gi (.c 1) .x] rfl<|pV.mp q))]
   have q2:bZ .le (.int i) (.int 0)=some false:=by rw[Is,aA (by exact(λmvo7=>(qj [] [i] [Gi (.c 1) .x,Gi .x<|.c 0] rfl (pV.mp q) mvo7)))]
   exact bB [.b 4<|q1,.b 1<|q2]
 .exact bB []
theorem lt_int(m:Nat){op:Str}(h:op≠ew)(i:Int) :cF P (m+1) 23 [vK op,.fz<|.int i]=gK (eG<|.error bH):=
 bB [.b 0<|(nV h)]
theorem BR(m:Nat)(t:Sb) :cF P (m+1) 23 [vK cP,.fz<|.tuple t]=gK (eG<|jV cP<|.tuple t):=by cases t with
 | nil=>show _=gK (eG<|.ok<|.int 1);exact bB []
 | cons d r=>
  have q:bZ .eq (.int ((d::r).length:Nat)) (.int 0)=some false:=by rw[eQ];exact congrArg some<|MS d r
  exact bB []
theorem BQ(m:Nat)(t:Sb) :cF P (m+1) 23 [vK cO,.fz<|.tuple t]=gK (eG<|jV cO<|.tuple t):=by cases t with
 | nil=>show _=gK (eG<|.error bq);exact bB []
 | cons d r=>
  have q:bZ .eq (.int ((d::r).length:Nat)) (.int 0)=some false:=by rw[eQ];exact congrArg some<|MS d r
  exact bB []
theorem Gb(m:Nat)(t:Sb) :cF P (m+1) 23 [vK en,.fz<|.tuple t]=gK (eG<|jV en<|.tuple t):=by cases t with
 | nil=>show _=gK (eG<|.error bq);exact bB []
 | cons d r=>
  have q:bZ .eq (.int ((d::r).length:Nat)) (.int 0)=some false:=by rw[eQ];exact congrArg some<|MS d r
  exact bB [.v 12<|oP d r]
theorem Os(x:Str) :bZ .isin (.str x) (.tuple [(SC [102,105,114,115,116]),(SC [114,101,115,116]),(SC [101,109,112,116,121]),(SC [100,111,119,110])])=some (gj x L6):=Cs x
theorem Qi{x k:Str}(h:x≠k) :bZ .ne (.str x) (.str k)=some true:=by rw[pG,e_strD];refine Er (aA h) ?_;rfl
theorem sE(n:Nat){op:Str}(h:mH op)(a b:D)(r:D)(f:cF P (n+59) 22 [vK op,.fz a,.fz b]=gK r) :cF P (n+60) 24 [vK op,.fz<|.list [a,b]]=gK r:=by have q1:=nV h.op.l;have q2:=nV h.op.e;have q4:=Qi h.op.j;have q3:=(Os op).trans (by exact Er (show gj op L6=false from by rcases h with rfl | rfl | rfl | rfl | rfl <;> decide) rfl:_=some false);exact bB [.b 0<|q1,.b 1<|q2,.b 1<|q3,.b 1<|q4,.c 3<|f]
theorem kD(n:Nat){op:Str}(h1:op≠b6)(h2:op≠jl)(h3:gj op L6=true)(a:D)(r:D)(f:cF P (n+59) 23 [vK op,.fz a]=gK r) :cF P (n+60) 24 [vK op,.fz<|.list [a]]=gK r:=by have q1:=nV h1;have q2:=nV h2;have q3:=(Os op).trans (by exact Er h3 rfl:_=some true);exact bB [.b 0<|q1,.b 1<|q2,.b 1<|q3,.c 2<|f]
theorem Gu(n:Nat)(O:Sb)(r:D)(f:cF P (n+59) 21 [.fz<|.tuple O]=gK r) :cF P (n+60) 24 [vK b6,.fz<|.list O]=gK r:=by exact bB [.c 3<|f]
theorem Go(n:Nat)(a b:D)(ha:Vg a)(hb:Vg b) :cF P (n+60) 24 [vK jl,.fz<|.list [a,b]]=gK (eG<|.ok<|.int (if dK a b then 1 else 0)):=by have e:=yg ha hb;cases G:dK a b with
 | true=>rw[G]at e;show _=gK (eG<|.ok<|.int 1);exact bB [.b 6<|e]
 | false=>rw[G]at e;show _=gK (eG<|.ok<|.int 0);exact bB [.b 6<|e]
theorem Gv(n:Nat)(a b:D)(ha:Vg a)(hb:Vg b) :cF P (n+60) 24 [vK iL,.fz<|.list [a,b]]=gK (eG<|xZ a b):=by
 rcases hb.k with⟨i,rfl,_⟩ | ⟨t,rfl,hg,hw⟩
 .exact bB []
 .have hl:t.length<=49:=af (sC t) hw;have e:op2 .add (.tuple [a]) (.tuple t)=some (.fz<|.tuple (a::t)):=by
   show(if [a].length+t.length<=Sz then some (Rv.fz<|.tuple<|[a]++t) else none)=_
   refine Er (if_pos (by show 1+t.length<=16777216;exact(Ln [t.length] (.w (.a (.c 1) .x)<|.c 16777216) [Gl .x<|.c 49] rfl hl))) ?_;rfl
  have f:=uv (n+6) (a::t) (by show(gm a&&goods t)=true;refine Er ha.g<|Er hg ?_;rfl) (by exact jv.mpr ⟨ha.dp,af (af (deps_wts t) hw) (by decide)⟩);exact bB [.v 14<|e,.c 0<|f]
theorem B5(n:Nat){op:Str}{O:Sb}(ho:jY op=true)(hl:c8 op O.length=true)(hv:∀v∈O,Vg v) :cF P (n+60) 24 [vK op,.fz<|.list O]=gK (eG<|dn op O):=by
 rcases Qm ho with h | rfl | rfl | rfl | rfl | rfl | rfl | rfl
 .obtain⟨a,b,rfl,ha,hb⟩:=two hv<|iH hl h.op.l h.pair;rw[wU h.op];rcases ha.k with⟨i,rfl,hi⟩ | ⟨s,rfl,_⟩ <;> rcases hb.k with⟨j,rfl,hj⟩ | ⟨t,rfl,_⟩
  .exact sE n h _ _ _ (K7 (n+57) h i j hi hj)
  .exact sE n h _ _ _ (Ca _ _ _ _<|.inr ⟨rfl,rfl⟩)
  .exact sE n h _ _ _ (Ca _ _ _ _<|.inl rfl)
  .exact sE n h _ _ _ (Ca _ _ _ _<|.inl rfl)
 .obtain⟨a,b,rfl,ha,hb⟩:=two hv<|iH hl (by decide) (by decide);rw[tc];exact Go n a b ha hb
 .obtain⟨a,b,rfl,ha,hb⟩:=two hv<|iH hl (by decide) (by decide);rw[th];exact Gv n a b ha hb
 .obtain⟨a,rfl,ha⟩:=one hv<|gq hl (by decide) (by decide);rw[ti];exact kD n (by decide) (by decide) (by decide) a _<|Gc _ a ha
 .obtain⟨a,rfl,ha⟩:=one hv<|gq hl (by decide) (by decide);rw[pq];refine kD n (by decide) (by decide) (by decide) a _ ?_;rcases ha.k with⟨i,rfl,hi⟩ | ⟨s,rfl,_⟩
  .exact lt_int _ (by decide) i
  .exact BQ _ s
 .obtain⟨a,rfl,ha⟩:=one hv<|gq hl (by decide) (by decide);rw[td];refine kD n (by decide) (by decide) (by decide) a _ ?_;rcases ha.k with⟨i,rfl,hi⟩ | ⟨s,rfl,_⟩
  .exact lt_int _ (by decide) i
  .exact Gb _ s
 .obtain⟨a,rfl,ha⟩:=one hv<|gq hl (by decide) (by decide);rw[pu];refine kD n (by decide) (by decide) (by decide) a _ ?_;rcases ha.k with⟨i,rfl,hi⟩ | ⟨s,rfl,_⟩
  .exact lt_int _ (by decide) i
  .exact BR _ s
 .rw[te];exact Gu n O _<|uv (n+6) O (P9 hv).1 (P9 hv).2
theorem Hj{d v:D}(h:eV d = .ok v) :Vg v:=by unfold eV at h;cases hf:qo d with
 | true=>rw[hf]at h;obtain rfl:=ky h;exact Hk hf
 | false=>rw[hf]at h;cases h
theorem JE(b:Bool) :Vg (.int (if b then 1 else 0)):=by cases b <;> exact⟨by decide,by decide⟩
abbrev sT:Sd:=fy
noncomputable def Et:Se D->Prop
 | .ok v=>Vg v
 | .error e=>e∈sT
theorem jp(d:D) :Et (eV d):=by cases hf:eV d with
 | ok v=>exact Hj hf
 | error e=>unfold eV at hf;cases hb:qo d with
  | true=>rw[hb]at hf;exact LL hf
  | false=>rw[hb]at hf;cases hf;show bj∈sT;decide
theorem sA(op:Str)(ha:Vg a) :Et (jV op a):=by
 rcases ha.k with⟨i,rfl,_⟩ | ⟨t,rfl,hg,hw⟩
 .show bH∈sT;decide
 .cases t with
  | nil=>
   show Et (if op=cP then Except.ok (PyData.int 1) else Except.error bq)
   by_cases q:op=cP
   .exact Er (if_pos q) (JE true)
   .refine Er (if_neg q) ?_;show bq∈sT;decide
  | cons d r=>
   show Et (if op=cP then Except.ok (PyData.int 0) else if op=cO then Except.ok d else Except.ok (.tuple r))
   have hg:(gm d&&goods r)=true:=hg;rw[az]at hg;by_cases q:op=cP
   .exact Er (if_pos q) (JE false)
   .refine Er (if_neg q) ?_;by_cases q1:op=cO
    .exact Er (if_pos q1) (⟨hg.1,by exact(Ln [wt d,wts r] (.w .x<|.c 50) [Gl (.a .x .y)<|.c 49] rfl hw)⟩)
    .exact Er (if_neg q1) (⟨hg.2,by show 1+wts r<=50;exact(Ln [wts r,wt d] (.w (.a (.c 1) .x)<|.c 50) [Gl (.a .y .x)<|.c 49,Gl (.c 1) .y] rfl hw<|rH d)⟩)
theorem yj{op:Str}{O:Sb}(ho:jY op=true)(hl:c8 op O.length=true)(hv:∀v∈O,Vg v) :Et (dn op O):=by
 rcases Qm ho with hn | rfl | rfl | rfl | rfl | rfl | rfl | rfl
 .obtain⟨a,b,rfl,ha,hb⟩:=two hv<|iH hl hn.op.l hn.pair;rw[wU hn.op];have no:aS∈sT:=by decide
  rcases ha.k with⟨i,rfl,hi⟩ | ⟨s,rfl,_⟩ <;> rcases hb.k with⟨j,rfl,hj⟩ | ⟨t,rfl,_⟩ <;> first | exact no | skip
  show Et (r8 op i j)
  rcases hn with rfl | rfl | rfl | rfl | rfl
  .rw[vW];exact jp _
  .rw[sk];exact jp _
  .rw[sj];exact jp _
  .rw[vY,<- Je];exact jp _
  .rw[vX];by_cases q:j=0
   .refine Er (if_pos q) ?_;show bf∈sT;decide
   .exact Er (if_neg q) (jp _)
 .obtain⟨a,b,rfl,ha,hb⟩:=two hv<|iH hl (by decide) (by decide);rw[tc];exact JE _
 .obtain⟨a,b,rfl,ha,hb⟩:=two hv<|iH hl (by decide) (by decide);rw[th];rcases hb.k with⟨j,rfl,hj⟩ | ⟨t,rfl,_⟩
  .show bH∈sT;decide
  .exact jp _
 .obtain⟨a,rfl,ha⟩:=one hv<|gq hl (by decide) (by decide);rw[ti];have hg:=ha.g;rcases ha.k with⟨i,rfl,hi⟩ | ⟨t,rfl,_⟩
  .show Et (if i<1 then Except.error bN else Except.ok (.int<|i - 1))
   by_cases q:i<1
   .refine Er (if_pos q) ?_;show bN∈sT;decide
   .refine Er (if_neg q) ?_;have hg:gH i=true:=hg;unfold gH at hg;rw[az]at hg;have g2:=aF hg.2;exact⟨by show gH (i - 1)=true;unfold gH;refine Er (ak (by omega))<|Er (ak (by omega)) ?_;rfl,by show 1<=50;decide⟩
  .show aS∈sT;decide
 .obtain⟨a,rfl,ha⟩:=one hv<|gq hl (by decide) (by decide);rw[pq];exact sA _ ha
 .obtain⟨a,rfl,ha⟩:=one hv<|gq hl (by decide) (by decide);rw[td];exact sA _ ha
 .obtain⟨a,rfl,ha⟩:=one hv<|gq hl (by decide) (by decide);rw[pu];exact sA _ ha
 .rw[te];exact jp _
end Lq
end
section
/-! Law 13:what Making computes,in plain Lean. Both `Making.left` and the law's `_law_left` are walked to `lf`.
A call in the result bears its case (name,known values);Making prints 'f'+str(place of the case in found),the law the case itself. -/
namespace Lq
open PySem Mv
noncomputable abbrev cY:=Str×Sb
abbrev C:=List cY
inductive R where | val(d:D) | nam(x:Str) | ref(x:Str) | iff(a b e:R) | doo(op:Str)(ps:List R) | call(f:Str)(ks:Sb)(ps:List R)
abbrev Sf:=C->R×C
noncomputable def R.opn:R->Bool
 | .val _=>false
 | _=>true
noncomputable def R.isRef:R->Bool
 | .ref _=>true
 | _=>false
noncomputable def R.v:R->D
 | .val d=>d
 | _=>.none
open Classical in
noncomputable def jt(c:C)(x:cY) :C:=if x∈c then c else c++[x]
set_option genCtorIdx true in
inductive Lp where | ret(r:R)(c:C) | next(ks:Sb)(os:List R)(o:Bool)(c:C)
def cN:Sb->List R->Bool->List (Sf×Bool)->C->Lp
 | ks,os,o,[],c=>.next ks os o c
 | ks,os,o,(g,b)::gs,c=>eH ((g c).1.isRef && !o) (.ret (g c).1 (g c).2) (eH b (eH (g c).1.isRef (.ret (.doo b6<|os++[(g c).1]) (g c).2)<|cN (ks++[(g c).1.v]) os o gs (g c).2)
   (cN ks (os++[(g c).1]) (o||(g c).1.opn) gs (g c).2))
def fin(op:Str)(ps:List R) :R:=match dn op (ps.map R.v) with
 | .ok v=>.val v
 | .error e=>.ref e
def MY(op:Str) :Lp->R×C
 | .ret r c=>(r,c)
 | .next _ SK o c=>(eH o (.doo op SK)<|fin op SK,c)
def u9(f:Str) :Lp->R×C
 | .ret r c=>(r,c)
 | .next ks os _ c=>(.call f ks os,jt c (f,ks))
def R0(v:D)(b e:Sf)(c:C) :R×C:=match v with
 | .tuple _=>(.ref aS,c)
 | v=>eH (dK v<|.int 0) (e c)<|b c
def Ow(b e:Sf) :R×C->R×C
 | (.val v,c)=>R0 v b e c
 | (.ref x,c)=>(.ref x,c)
 | (r,c)=>(.iff r (b c).1 (e (b c).2).1,(e (b c).2).2)
def QF:List Sf->Sf
 | [a,b,e],c=>Ow b e<|a c
 | _,c=>(.val<|.int 0,c)
noncomputable def lV:List Hd->Str->Sp
 | [],_=>[]
 | h::G,f=>if h.nm=f then h.wn else lV G f
mutual
noncomputable def lf(G:List Hd)(SL:Sj) :T->Sf
 | .val d=>λc=>(.val d,c)
 | .nam x=>λc=>(match bU SL x with
  | some v=>.val v
  | none=>.nam x,c)
 | .ref x=>λc=>(.ref x,c)
 | .iff ps=>QF<|lfs G SL ps
 | .doo op ps=>λc=>MY op<|cN [] [] false ((lfs G SL ps).map λf=>(f,false)) c
 | .call f ps=>λc=>u9 f<|cN [] [] false ((lfs G SL ps).zip<|lV G f) c
noncomputable def lfs(G:List Hd)(SL:Sj) :List T->List Sf
 | []=>[]
 | t::ts=>lf G SL t::lfs G SL ts
end
noncomputable def Rk(A:Str->Nat)(ns:Sd)(c:C) :Nat->R->Prop
 | 0,_=>False
 | r+1,x=>match x with
  | .val d=>Vg d
  | .nam x=>x∈ns
  | .ref x=>x∈fy
  | .iff a b e=>Rk A ns c r a/\Rk A ns c r b/\Rk A ns c r e
  | .doo op ps=>(jY op=true/\c8 op ps.length=true)/\ ∀p∈ps,Rk A ns c r p
  | .call f ks ps=>(f,ks)∈c/\ps.length=A f/\ ∀p∈ps,Rk A ns c r p
theorem Rk.mono{c c':C}(p:c <+:c') :∀{n m:Nat}{r:R},n<=m->Rk A ns c n r->Rk A ns c' m r:=by intro n;induction n with
 | zero=>exact λj0_ h=>h.elim
 | succ n ih=>intro m r hm h;cases m with
  | zero=>exact(fH _ hm).elim
  | succ m=>have hm:=cG hm;cases r with
   | val d=>exact h
   | nam x=>exact h
   | ref x=>exact h
   | iff a b e=>exact⟨ih hm h.1,ih hm h.2.1,ih hm h.2.2⟩
   | doo op ps=>exact⟨h.1,λp hp=>ih hm<|h.2 p hp⟩
   | call f ks ps=>exact⟨p.subset h.1,h.2.1,λp hp=>ih hm<|h.2.2 p hp⟩
structure Gw(Sv:cY->Prop)(c c':C) :Prop where
 pre:c <+:c'
 nd:c.Nodup->c'.Nodup
 ins:(∀x∈c,Sv x)-> ∀x∈c',Sv x
structure Gr(Sv:cY->Prop)(A:Str->Nat)(ns:Sd)(n:Nat)(c:C)(p:R×C) :Prop where
 gw:Gw Sv c p.2
 rk:Rk A ns p.2 n p.1
section
variable {Sv:cY->Prop}{n m:Nat}{c c1 c2:C}{p:R×C}
theorem Gw.refl:Gw Sv c c:=⟨iv c,id,λh=>h⟩
theorem Gw.trans(a:Gw Sv c c1)(b:Gw Sv c1 c2) :Gw Sv c c2:=⟨a.pre.trans b.pre,λh=>b.nd<|a.nd h,λh=>b.ins<|a.ins h⟩
theorem xW{x:cY} :x∈jt c x:=by
 unfold jt;by_cases q:x∈c
 .exact Er (if_pos q) q
 .exact Er (if_neg q) (aE _ aa)
theorem Gw.add{x:cY}(h:Sv x) :Gw Sv c (jt c x):=by
 unfold jt;by_cases q:x∈c
 .exact Er (if_pos q) .refl
 .rw[if_neg q];refine⟨List.prefix_append c [x],λnd=>gS.mpr ⟨nd,List.pairwise_singleton _ _,λa ha b hb e=>q (by refine Er (aJ.mp hb).symm<|Er e.symm ?_;exact ha)⟩,λH y hy=>?_⟩;rcases cS.mp hy with hy | hy
  .exact H y hy
  .exact Er (aJ.mp hy) h
end
inductive TV:R->Prop
 | val {v:D} :v∈Sl->TV (.val v)
 | ref {x:Str} :x∈fy->TV (.ref x)
inductive qx(Sv:cY->Prop)(A:Str->Nat)(ns:Sd)(n:Nat)(c:C)(kk kt:Nat) :Lp->Prop
 | ret {r:R} {c':C} :Gr Sv A ns (n+1) c (r,c')->qx Sv A ns n c kk kt (.ret r c')
 | next {ks:Sb} {os:List R} {o:Bool} {c':C} :Gw Sv c c'->(∀k∈ks,k∈Sl)->ks.length=kk->ks.length+os.length=kt->(∀x∈os,Rk A ns c' n x)->o=os.any R.opn->qx Sv A ns n c kk kt (.next ks os o c')
theorem qx.trans{n kk kt:Nat}{c c1:C}{l:Lp}(a:Gw Sv c c1)(b:qx Sv A ns n c1 kk kt l) :qx Sv A ns n c kk kt l:=by cases b with
 | ret g=>exact .ret ⟨a.trans g.gw,g.rk⟩
 | next g h1 h2 h3 h4 h5=>exact .next (a.trans g) h1 h2 h3 h4 h5
theorem mF{P:α->Prop}{l:List α}(h:∀x∈l,P x)(ha:P a) :∀x∈l++[a],P x:=λx hx=>(cS.mp hx).elim (h x) λhx=>by exact Er (aJ.mp hx) ha
theorem yp{os:List R}{r:R} :(os++[r]).any R.opn=(os.any R.opn||r.opn):=by refine Er List.any_append ?_;show(_||(r.opn||false))=_;rw[Bool.or_false]
theorem pJ{os:List R}(h:os.any R.opn=false) :∀x∈os,x.opn=false:=λx hx=>by rw[List.any_eq_false]at h;exact bK.mpr<|h x hx
theorem vt{k:Nat}(h:k<=8) :c8 b6 k=true:=by unfold c8;rw[if_pos rfl];exact ak<|kr.mpr h
theorem u8{Sv:cY->Prop}{A:Str->Nat}{ns:Sd}{n:Nat} :∀gs ks os o c,(∀g∈gs, ∀c,Gr Sv A ns n c<|g.1 c)->(∀g∈gs,g.2=true-> ∀c,TV (g.1 c).1)->(∀k∈ks,k∈Sl)->(∀x∈os,Rk A ns c n x)->
  os.length+gs.length<=8->o=os.any R.opn->qx Sv A ns n c (ks.length+(gs.filter (·.2)).length) (ks.length+os.length+gs.length) (cN ks os o gs c):=by
 intro gs;induction gs with
 | nil=>intro ks os o c _ _ hk ho _ hn;exact .next .refl hk rfl rfl ho hn
 | cons g gs ih=>
  intro ks os o c H HT hk ho hl hn;obtain⟨g,b⟩:=g;have h1:Gr Sv A ns n c (g c):=H _ aa c;have h2:b=true->TV (g c).1:=λe=>HT _ aa e c;have H':∀g∈gs, ∀c,Gr Sv A ns n c (g.1 c):=λg hg=>H g<|ac _ hg;have HT':∀g∈gs,g.2=true-> ∀c,TV (g.1 c).1:=λg hg=>HT g<|ac _ hg;have e:cN ks os o ((g,b)::gs) c=eH ((g c).1.isRef && !o) (.ret (g c).1 (g c).2) (eH b (eH (g c).1.isRef (.ret (.doo b6<|os++[(g c).1]) (g c).2)<|cN (ks++[(g c).1.v]) os o gs (g c).2)
   (cN ks (os++[(g c).1]) (o||(g c).1.opn) gs (g c).2)):=rfl
  refine Er e ?_;clear e;have ho':∀x∈os,Rk A ns (g c).2 n x:=λx hx=>(ho x hx).mono h1.gw.pre<|aQ _;rw[aD]at hl |-;generalize g c=p at h1 h2 ho' |-;obtain⟨r,c1⟩:=p;cases q1:r.isRef && !o with
  | true=>exact .ret ⟨h1.gw,h1.rk.mono (iv _)<|rA n⟩
  | false=>cases b with
   | true=>refine qx.trans h1.gw ?_;cases(h2 rfl) with
    | ref=>refine .ret ⟨.refl,⟨by kernel_rfl,?_⟩,mF ho' h1.rk⟩;exact vt<|af (aj▸aG (eJ 1 _) _) hl
    | @val v hv=>have:=ih (ks++[v]) os o c1 H' HT' (mF hk hv) ho' (af (aG (rA _) _) hl) hn;rw[aj,cu]at this;exact Er (show((((g,true)::gs).filter (·.2)).length)=(gs.filter (·.2)).length+1 from rfl)<|Er (show ks.length+((gs.filter (·.2)).length+1)=ks.length+1+(gs.filter (·.2)).length by omega)<|Er (show ks.length+os.length+(gs.length+1)=ks.length+1+os.length+gs.length by omega) this
   | false=>refine qx.trans h1.gw ?_;have:=ih ks (os++[r]) (o||r.opn) c1 H' HT' hk (mF ho' h1.rk) (by refine Er aj<|Er cu ?_;omega)<|Er yp<|Er hn rfl;rw[aj,cu]at this;exact Er (show((((g,false)::gs).filter (·.2)).length)=(gs.filter (·.2)).length from rfl)<|Er (show ks.length+os.length+(gs.length+1)=ks.length+(os.length+1)+gs.length by omega) this
end Lq
end
section
namespace Lq
open PySem Mv
theorem nE{d:D}(h:d∈Sl) :Vg d:=(lA<|aB.mp (show Sl.all EG=true by kernel_rfl) d h).vg
mutual
theorem uz:∀d:D,gm d=true->iX d=true
 | .int _,_=>rfl
 | .tuple V,h=>keys_good V h
 | .none,h=>by cases h
 | .bool _,h=>by cases h
 | .str _,h=>by cases h
 | .list _,h=>by cases h
 | .dict _,h=>by cases h
theorem keys_good:∀V:Sb,goods V=true->keyDs V=true
 | [],_=>rfl
 | d::V,h=>by have h:(gm d&&goods V)=true:=h;rw[az]at h;exact ao.mpr ⟨uz d h.1,keys_good V h.2⟩
end
theorem Vg.key{d:D}(h:Vg d) :iX d=true:=uz d h.g
theorem IS:Sl.all (λv=>[cO,en,ew].all λop=>(jY op&&c8 op 1)&&match dn op [v]with
 | .ok w=>Sl.any λu=>PyData.eqv u w
 | .error _=>true)=true:=by kernel_rfl
theorem IR{v:D}{op:Str}(hv:v∈Sl)(ho:op∈ [cO,en,ew]) :Et (dn op [v]):=by have q:=aB.mp (aB.mp IS v hv) op ho;rw[az,az]at q;exact yj q.1.1 (O:=[v]) q.1.2 λx hx=>by exact Er (aJ.mp hx)<|nE hv
theorem J3{v:D}{op e:Str}(hv:v∈Sl)(ho:op∈ [cO,en,ew])(h:dn op [v] = .error e) :e∈fy:=by have g:=IR hv ho;rw[h]at g;exact g
theorem Fe{v w:D}{op:Str}(hv:v∈Sl)(ho:op∈ [cO,en,ew])(h:dn op [v] = .ok w) :w∈Sl:=by have q:=aB.mp (aB.mp IS v hv) op ho;rw[az,az]at q;have q:=h▸q;have g:=IR hv ho;rw[h]at g;obtain⟨u,Q⟩:=ix.mp q.2;exact sG u (nE Q.1).key w (Vg.key g) Q.2▸Q.1
section
variable {G:List Hd}{kn:Sd}{SL:Sj}
theorem AH(hh:∀x∈kn, ∃v,bU SL x=some v/\v∈Sl){t:T}(h:Tm kn t) :∀c,(lf G SL t c).2=c/\TV (lf G SL t c).1:=by induction h with
 | val h=>exact λc=>⟨rfl,.val h⟩
 | ref h=>exact λc=>⟨rfl,.ref h⟩
 | nam h=>
  intro c;refine aR (hh _ h) λv Q=>?_;refine⟨rfl,?_⟩;show TV (match bU SL _ with
  | some v=>R.val v
  | none=>R.nam _)
  rw[Q.1];exact .val Q.2
 | @doo op t hop _ ih=>intro c;have e:lf G SL (.doo op [t]) c=MY op (eH ((lf G SL t c).1.isRef && !false) (.ret (lf G SL t c).1 (lf G SL t c).2)<|.next [] [(lf G SL t c).1] (false||(lf G SL t c).1.opn) (lf G SL t c).2):=rfl;refine Er e ?_;clear e;have h1:=ih c;generalize lf G SL t c=p at h1 |-;obtain⟨r,c1⟩:=p;obtain⟨rfl,h2⟩:=h1;cases h2 with
  | ref h=>exact⟨rfl,.ref h⟩
  | @val v hv=>
   refine⟨rfl,?_⟩;show TV (match dn op [v]with
   | .ok v=>R.val v
   | .error e=>R.ref e)
   cases q:dn op [v]with
   | ok w=>exact .val<|Fe hv hop q
   | error e=>exact .ref<|J3 hv hop q
def nO(G:List Hd)(f:Str) :Nat:=((lV G f).filter (!·)).length
theorem Hi(l:Sp) :(l.filter id).length+(l.filter (!·)).length=l.length:=by induction l with
 | nil=>rfl
 | cons b l ih=>cases b with
  | true=>exact(Nat.succ_add _ _).trans<|congrArg (· + 1) ih
  | false=>exact congrArg (· + 1) ih
structure Us(G:List Hd)(x:cY) :Prop where
 mem:∃h∈G,h.nm=x.1/\x.2.length=(h.wn.filter id).length
 sl:∀k∈x.2,k∈Sl
theorem iC(ts:List T) :lfs G SL ts=ts.map (lf G SL):=by induction ts with
 | nil=>rfl
 | cons t ts ih=>show _::_=_::_;exact Er ih rfl
theorem qH:∀{G:List Hd},(G.map (·.nm)).Nodup->h∈G->lV G h.nm=h.wn:=by intro G;induction G with
 | nil=>exact λj0_ m=>by cases m
 | cons g G ih=>
  intro nd m;rw[ay,bh]at nd;show(if g.nm=h.nm then g.wn else lV G h.nm)=_
  rcases am.mp m with rfl | m
  .exact if_pos rfl
  .exact Er (if_neg λe=>nd.1<|aH.mpr ⟨h,m,e.symm⟩) (ih nd.2 m)
theorem Ev{α β:Type}{f:β->Bool} :∀{as:List α}{bs:List β},as.length=bs.length->((as.zip bs).filter λp=>f p.2).length=(bs.filter f).length:=by intro as;induction as with
 | nil=>intro bs h;cases bs with | nil=>rfl | cons b bs=>exact nomatch h
 | cons a as ih=>intro bs h;cases bs with
  | nil=>exact nomatch h
  | cons b bs=>
   have:=ih (bs:=bs)<|be h;show((eH (f b) ((a,b)::(as.zip bs).filter λp=>f p.2)<|(as.zip bs).filter λp=>f p.2)).length=(eH (f b) (b::bs.filter f)<|bs.filter f).length
   cases f b with
   | true=>exact congrArg (· + 1) this
   | false=>exact this
end
theorem jK{op:Str}{k:Nat}(h:c8 op k=true) :k<=8:=by
 by_cases q:op=b6
 .unfold c8 at h;rw[if_pos q]at h;have:=aF h;exact(Ln [k] (.w .x<|.c 8) [Gi (.n .x)<|.c 8] rfl this)
 .cases p:gj op mV with
  | true=>rw[iH h q p];decide
  | false=>rw[gq h q p];decide
theorem LC{c:C}{op:Str}(ho:jY op=true)(hl:c8 op ps.length=true)(h:∀p∈ps,Rk A ns c n p)(hv:∀p∈ps,p.opn=false) :Rk A ns c (n+1) (fin op ps):=by
 have g:=yj (O:=ps.map R.v) ho (by rw[ai];exact hl) λv hv'=>by obtain⟨p,hp,rfl⟩:=aH.mp hv';have h1:=h p hp;have h2:=hv p hp;cases p with
  | val d=>cases n with
   | zero=>exact h1.elim
   | succ n=>exact h1
  | _=>cases h2
 unfold fin;cases q:dn op (ps.map R.v) with
 | ok v=>rw[q]at g;exact g
 | error e=>rw[q]at g;exact g
section
variable {G:List Hd}{kn ns all:Sd}{SL:Sj}
theorem DD(H:∀t∈ps, ∀c,Gr (Us G) (nO G) ns r c<|lf G SL t c)(h8:ps.length<=8)(c:C) :qx (Us G) (nO G) ns r c 0 ps.length (cN [] [] false ((lfs G SL ps).map λf=>(f,false)) c):=by
 have e:((lfs G SL ps).map λf=>(f,false)).length=ps.length:=by rw[ai,iC,ai]
 have:=u8 (Sv:=Us G) (n:=r) ((lfs G SL ps).map λf=>(f,false)) [] [] false c (λg hg=>by
  obtain⟨f,hf,rfl⟩:=aH.mp hg;rw[iC]at hf;obtain⟨u,hu,rfl⟩:=aH.mp hf;exact H u hu) (λg hg h=>by
  obtain⟨f,hf,rfl⟩:=aH.mp hg;cases h) (λj0_ h=>by cases h) (λj0_ h=>by cases h) (by refine Er e ?_;show 0+ps.length<=8;rw[aX];exact h8) rfl
 rw[e,List.filter_eq_nil_iff.mpr (λg hg=>by obtain⟨f,hf,rfl⟩:=aH.mp hg;exact gy)]at this;exact(show 0+0+ps.length=ps.length by omega)▸this
theorem yl{r:Nat}{ps:List T}{h:Hd}(hh:∀x∈kn, ∃v,bU SL x=some v/\v∈Sl)(H:∀t∈ps, ∀c,Gr (Us G) (nO G) ns r c<|lf G SL t c)(hl:ps.length=h.wn.length)(htm:∀p∈ps.zip h.wn,p.2=true->Tm kn p.1)(h8:ps.length<=8)(c:C) :
  qx (Us G) (nO G) ns r c (h.wn.filter id).length ps.length (cN [] [] false ((lfs G SL ps).zip h.wn) c):=by
 have el:(lfs G SL ps).length=h.wn.length:=by rw[iC,ai];exact Er hl rfl
 have e:((lfs G SL ps).zip h.wn).length=ps.length:=by rw[List.length_zip,el,Nat.min_self];exact Er hl rfl
 have:=u8 (Sv:=Us G) (n:=r) ((lfs G SL ps).zip h.wn) [] [] false c (λg hg=>by
  have hf:=(jb (a:=g.1) (b:=g.2) hg).1;rw[iC]at hf;obtain⟨u,Q⟩:=aH.mp hf;refine Er Q.2.symm ?_;exact H u Q.1) (λg hg h=>by
  rw[iC,List.zip_map_left]at hg;obtain⟨q,hq,rfl⟩:=aH.mp hg;exact λc=>(AH hh (htm q hq h) c).2) (λj0_ h=>by cases h) (λj0_ h=>by cases h) (by refine Er e ?_;show 0+ps.length<=8;rw[aX];exact h8) rfl
 rw[e,show(List.filter (λx=>x.snd)<|(lfs G SL ps).zip h.wn).length=(h.wn.filter id).length from Ev (f:=id) el]at this;rw[show(([] :Sb).length+(h.wn.filter id).length)=(h.wn.filter id).length from aX _,show([] :Sb).length+([] :List R).length+ps.length=ps.length from aX _]at this;exact this
theorem B0(nd:(G.map (·.nm)).Nodup)(hw:∀h∈G,h.wn.length<=6)(hh:∀x∈kn, ∃v,bU SL x=some v/\v∈Sl)(hv:∀x v,bU SL x=some v->Vg v)(ho:∀x∈all,bU SL x=none->x∈ns) :∀r t,Ok G kn all r t-> ∀c,Gr (Us G) (nO G) ns r c (lf G SL t c):=by intro r;induction r with
 | zero=>exact λj0_ h=>h.elim
 | succ r ih=>intro t ht c;cases t with
  | val d=>exact⟨.refl,Vl.vg ht⟩
  | ref x=>exact⟨.refl,ht⟩
  | nam x=>
   refine⟨.refl,?_⟩;show Rk (nO G) ns c (r+1) (match bU SL x with
   | some v=>R.val v
   | none=>R.nam x)
   cases q:bU SL x with
   | some v=>exact hv x v q
   | none=>exact ho x ht q
  | iff ps=>
   refine m5 (B3 ht.1) λa b e Q=>?_;subst Q;have ha:=ih a (ht.2 a (by simp)) c;have hb:=ih b<|ht.2 b (by simp);have he:=ih e<|ht.2 e (by simp);show Gr (Us G) (nO G) ns (r+1) c (Ow (lf G SL b) (lf G SL e)<|lf G SL a c)
   generalize lf G SL a c=p at ha |-;generalize lf G SL b=fb at hb |-;generalize lf G SL e=fe at he |-;obtain⟨x,c1⟩:=p;have up:∀{c p},Gr (Us G) (nO G) ns r c p->Gr (Us G) (nO G) ns (r+1) c p:=λh=>⟨h.gw,h.rk.mono (iv _)<|rA r⟩
   have three:Rk (nO G) ns c1 r x->Gr (Us G) (nO G) ns (r+1) c (.iff x (fb c1).1 (fe (fb c1).2).1,(fe (fb c1).2).2):=λhx=>
    ⟨(ha.gw.trans (hb c1).gw).trans (he _).gw,hx.mono ((hb c1).gw.pre.trans (he _).gw.pre)<|aQ _,(hb c1).rk.mono (he _).gw.pre<|aQ _,(he _).rk⟩
   cases x with
   | val v=>
    have two:∀t:Bool,Gr (Us G) (nO G) ns (r+1) c (eH t (fe c1)<|fb c1):=λt=>by cases t with
     | true=>exact⟨ha.gw.trans (he c1).gw,(up<|he c1).rk⟩
     | false=>exact⟨ha.gw.trans (hb c1).gw,(up<|hb c1).rk⟩
    cases v with
    | tuple l=>exact⟨ha.gw,.head _⟩
    | none=>exact two<|dK .none<|.int 0
    | bool b=>exact two<|dK (.bool b)<|.int 0
    | int i=>exact two<|dK (.int i)<|.int 0
    | str s=>exact two<|dK (.str s)<|.int 0
    | list l=>exact two<|dK (.list l)<|.int 0
    | dict l=>exact two<|dK (.dict l)<|.int 0
   | ref x=>exact⟨ha.gw,(up ha).rk⟩
   | _=>exact three ha.rk
  | doo op ps=>
   have:=DD (λu hu=>ih u<|ht.2 u hu) (jK ht.1.2) c;show Gr (Us G) (nO G) ns (r+1) c (MY op _)
   generalize cN [] [] false ((lfs G SL ps).map λf=>(f,false)) c=l at this |-;cases this with
   | ret g=>exact g
   | @next ks os o c' g h1 h2 h3 h4 h5=>
    have hl:os.length=ps.length:=by rw[h2,aX]at h3;exact h3
    cases o with
    | true=>exact⟨g,⟨ht.1.1,by refine Er hl ?_;exact ht.1.2⟩,h4⟩
    | false=>exact⟨g,LC ht.1.1 (by refine Er hl ?_;exact ht.1.2) h4<|pJ h5.symm⟩
  | call f ps=>
   obtain⟨⟨h,hm,rfl,hl,htm⟩,hp⟩:=ht;have:=yl hh (λu hu=>ih u<|hp u hu) hl htm (by rw[hl];have:=hw h hm;exact(Ln [h.wn.length] (.w .x<|.c 8) [Gl .x<|.c 6] rfl this)) c;show Gr (Us G) (nO G) ns (r+1) c (u9 h.nm<|cN [] [] false ((lfs G SL ps).zip<|lV G h.nm) c)
   refine Er (qH nd hm) ?_;generalize cN [] [] false ((lfs G SL ps).zip h.wn) c=l at this |-;cases this with
   | ret g=>exact g
   | @next ks os o c' g h1 h2 h3 h4 h5=>
    have ga:Gw (Us G) c' (jt c' (h.nm,ks)):=.add ⟨⟨h,hm,rfl,h2⟩,h1⟩;refine⟨g.trans ga,xW,?_,λp hp=>(h4 p hp).mono ga.pre<|aQ _⟩;show os.length=((lV G h.nm).filter (!·)).length
    rw[qH nd hm];exact Nat.add_left_cancel<|h3.trans<|hl.trans (by rw[h2];exact(Hi h.wn).symm)
end
def kv:Sd->Sb->Sj
 | p::ps,v::O=>(.str p,v)::kv ps O
 | _,_=>[]
theorem v9(O:Sb) :kv [] O=[]:=by cases O <;> rfl
theorem mZ{x:Str} :∀{ps:Sd}{O:Sb},x∈ps->ps.length=O.length-> ∃v,bU (kv ps O) x=some v/\v∈O:=by intro ps O;induction ps generalizing O with
 | nil=>exact @λh j0_=>by cases h
 | cons p ps ih=>cases O with
  | nil=>exact @λj0_ h=>by cases h
  | cons v O=>
    intro h hl;by_cases q:p=x
    .exact⟨v,by show(if p=x then some v else _)=_;exact Er (if_pos q) rfl,aa⟩
    .exact aR (ih ((am.mp h).resolve_left λe=>q e.symm)<|be hl) λu Q=>⟨u,by show(if p=x then some v else _)=_;rw[if_neg q,Q.1],ac _ Q.2⟩
noncomputable def Px(SK:Sj)(x:Str) :Prop:= ∀p∈SK,p.1≠ .str x
theorem l5{x:Str} :∀{SK:Sj},Px SK x->bU SK x=none
 | []=>@λj0_=>rfl
 | (k,d)::SK=>@λh=>by have ih:=l5 (SK:=SK) λp hp=>h p<|ac _ hp;cases k with
  | str k=>
   show(if k=x then some d else bU SK x)=none
   exact Er (if_neg λ(e:k=x)=>h (.str k,d) aa<|Er e rfl) ih
  | _=>exact ih
theorem Cc:∀ps SK O,ps.Nodup->ps.length=O.length->(∀p∈ps,Px SK p)->jH SK (gT (ps.map .str) O)=some (SK++kv ps O):=by intro ps;induction ps with
 | nil=>intro SK O _ hl _;cases O with
  | nil=>show some SK=_;rw[v9,aI]
  | cons _ _=>cases hl
 | cons p ps ih=>intro SK O nd hl h;cases O with
  | nil=>cases hl
  | cons v O=>
   show jH (f8 SK p v) _=_
   have e:f8 SK p v=SK++[(PyData.str p,v)]:=by unfold f8;refine Er (l5<|h p aa) ?_;rfl
   refine Er e ?_;rw[ih _ O (bh.mp nd).2 (be hl) λq hq=>?_]
   .rw[ah];rfl
   .intro z hz;rcases cS.mp hz with hz | hz
    .exact h q (ac _ hq) z hz
    .refine Er (aJ.mp hz) ?_;intro e;cases e;exact(bh.mp nd).1 hq
theorem HX{O:Sb}(nd:ps.Nodup)(hl:ps.length=O.length)(h6:ps.length<=6) :pI .dzip [.list<|ps.map .str,.tuple O]=some (.own<|.dict<|kv ps O):=by
 show(if (ps.map PyData.str).length<=1000 then(jH []<|gT (ps.map .str) O).map λSN=>Rv.own (.dict SN) else none)=_
 refine Er (if_pos (by rw[ai];exact(Ln [ps.length] (.w .x<|.c 1000) [Gl .x<|.c 6] rfl h6)))<|Er (Cc ps [] O nd hl λp j0_ z hz=>by cases hz) ?_;rfl
theorem wb{x:Str}{v:D} :∀{ps:Sd}{O:Sb},bU (kv ps O) x=some v->v∈O:=by intro ps;induction ps with
 | nil=>intro O h;rw[v9]at h;exact bz h
 | cons p ps ih=>intro O h;cases O with
  | nil=>cases h
  | cons u O=>
   have h:(if p=x then some u else bU (kv ps O) x)=some v:=h;by_cases q:p=x
   .rw[if_pos q]at h;obtain rfl:=bO h;exact aa
   .rw[if_neg q]at h;exact ac _<|ih h
theorem K9:∀{ps:Sd}{wn:Sp},wn.length=ps.length->(eL ps wn).length=(wn.filter id).length:=by intro ps;induction ps with
 | nil=>intro wn h;cases wn with | nil=>rfl | cons _ _=>exact nomatch h
 | cons p ps ih=>intro wn h;cases wn with
  | nil=>exact nomatch h
  | cons b wn=>cases b with
   | true=>exact congrArg (· + 1)<|ih<|be h
   | false=>exact ih<|be h
noncomputable def kW:Sd->Sp->Sd
 | x::ps,b::bs=>if b then kW ps bs else x::kW ps bs
 | _,_=>[]
theorem AB:∀{ps:Sd}{wn:Sp},wn.length=ps.length->(kW ps wn).length=(wn.filter (!·)).length:=by intro ps;induction ps with
 | nil=>intro wn h;cases wn with | nil=>rfl | cons _ _=>exact nomatch h
 | cons p ps ih=>intro wn h;cases wn with
  | nil=>exact nomatch h
  | cons b wn=>cases b with
   | true=>exact ih<|be h
   | false=>exact congrArg (· + 1)<|ih<|be h
theorem AA:∀{ps:Sd}{wn:Sp},(kW ps wn).Sublist ps:=by intro ps;induction ps with
 | nil=>intro wn;cases wn <;> exact List.Sublist.slnil
 | cons p ps ih=>intro wn;cases wn with
  | nil=>exact List.nil_sublist _
  | cons b wn=>cases b with
   | true=>exact(ih (wn:=wn)).cons p
   | false=>exact(ih (wn:=wn)).cons_cons p
theorem IY{x:Str} :∀{ps:Sd}{wn:Sp},wn.length=ps.length->x∈ps->x∈eL ps wn\/x∈kW ps wn:=by intro ps;induction ps with
 | nil=>intro wn _ h;cases h
 | cons p ps ih=>intro wn h m;cases wn with
  | nil=>exact nomatch h
  | cons b wn=>have i:=ih (wn:=wn)<|be h;cases b with
   | true=>exact(am.mp m).elim (λe=>.inl<|e▸aa) λm=>(i m).imp (ac _) id
   | false=>exact(am.mp m).elim (λe=>.inr<|e▸aa) λm=>(i m).imp id<|ac _
structure Pg(G:List Hd)(fs:List ij)(d:Nat) :Prop where
 hd:fs.map (·.1)=G
 ok:∀f∈fs,Ok G (eL f.1.ps f.1.wn) f.1.ps d f.2
 nd:(G.map (·.nm)).Nodup
 wn:∀h∈G,h.wn.length=h.ps.length
 le:∀h∈G,h.ps.length<=6
 pn:∀h∈G,h.ps.Nodup
 k2:∀h∈G,(h.wn.filter id).length<=2
 h5:G.length<=5
noncomputable def nX:List ij->Str->Option ij
 | [],_=>none
 | f::fs,x=>if f.1.nm=x then some f else nX fs x
def R7(G:List Hd)(x:cY) :Option ij->Sf
 | some f=>lf G (kv (eL f.1.ps f.1.wn) x.2) f.2
 | none=>λc=>(.ref ⟨#[]⟩,c)
def Bd(G:List Hd)(fs:List ij)(x:cY) :Sf:=R7 G x<|nX fs x.1
def qI(fs:List ij)(x:cY) :Sd:=(nX fs x.1).elim [] λf=>kW f.1.ps f.1.wn
theorem Ja:∀{fs:List ij},((fs.map (·.1)).map (·.nm)).Nodup->f∈fs->nX fs f.1.nm=some f:=by intro fs;induction fs with
 | nil=>exact λj0_ m=>by cases m
 | cons g fs ih=>
  intro nd m;rw[ay,ay,bh]at nd;show(if g.1.nm=f.1.nm then some g else nX fs f.1.nm)=_
  rcases am.mp m with rfl | m
  .exact if_pos rfl
  .exact Er (if_neg λe=>nd.1<|aH.mpr ⟨f.1,aH.mpr ⟨f,m,rfl⟩,e.symm⟩) (ih nd.2 m)
structure Ek(G:List Hd)(fs:List ij)(x:cY)(f:ij) :Prop where
 mem:f∈fs
 hm:f.1∈G
 nm:f.1.nm=x.1
 at':nX fs x.1=some f
 so:lV G x.1=f.1.wn
 kl:(eL f.1.ps f.1.wn).length=x.2.length
 k6:(eL f.1.ps f.1.wn).length<=6
 kd:(eL f.1.ps f.1.wn).Nodup
theorem Pg.case{d:Nat}(P:Pg G fs d){x:cY}(u:Us G x) :∃f,Ek G fs x f:=by
 refine aR u.mem λh q=>?_;have hm':=q.1;have hm':=P.hd.symm▸hm';obtain⟨f,hf,rfl⟩:=aH.mp hm';refine⟨f,hf,q.1,q.2.1,?_,?_,(K9<|P.wn _ q.1).trans q.2.2.symm,af sF.length_le<|P.le _ q.1,sF.nodup<|P.pn _ q.1⟩
 .rw[<- q.2.1];exact Ja (by refine Er P.hd ?_;exact P.nd) hf
 .rw[<- q.2.1];exact qH P.nd q.1
theorem Pg.gr{d:Nat}(P:Pg G fs d){x:cY}(u:Us G x)(c:C) :Gr (Us G) (nO G) (qI fs x) d c (Bd G fs x c):=by refine aR (P.case u) λf q=>?_;unfold Bd qI;refine Er q.at' ?_;refine B0 P.nd (λh hm=>by refine Er (P.wn h hm) ?_;exact P.le h hm) (λy hy=>?_) (λy v e=>nE<|u.sl v<|wb e) (λy hy e=>(IY (P.wn _ q.hm) hy).elim (λk=>aR (mZ k q.kl) λv Q=>bz<|e.symm.trans Q.1) id) d f.2 (P.ok f q.mem) c;exact aR (mZ hy q.kl) λv Q=>⟨v,Q.1,u.sl v Q.2⟩
def go(B:cY->Sf) :Nat->List R->C->Option (List R×C)
 | 0,_,_=>none
 | n+1,V,c=>match c[V.length]? with
  | none=>some (V,c)
  | some x=>go B n (V++[(B x c).1]) (B x c).2
open Classical in
theorem uj:∀{c L:List α},c.Nodup->(∀x∈c,x∈L)->c.length<=L.length:=by intro c;induction c with
 | nil=>exact λj0_ j1_=>ba _
 | cons x c ih=>
  intro L nd H;rw[bh]at nd;have hx:=H x aa;have:=ih (L:=L.erase x) nd.2 λy hy=>(List.mem_erase_of_ne (λe=>nd.1 (by rw[<- e];exact hy))).mpr<|H y<|ac _ hy;rw[List.length_erase_of_mem hx]at this;have:0<L.length:=List.length_pos_of_mem hx;show c.length+1<=L.length
  omega
theorem GX{B:cY->Sf}{Sv:cY->Prop}{A:Str->Nat}{N:cY->Sd}{d:Nat}{L:List cY}(hL:∀x,Sv x->x∈L)(hB:∀x,Sv x-> ∀c,Gr Sv A (N x) d c<|B x c) :∀n V c,L.length<n+V.length->c.Nodup->(∀x∈c,Sv x)->V.length<=c.length->
  ∃ds' c',go B n V c=some (ds',c'):=by
 intro n;induction n with
 | zero=>intro V c h nd hc hl;have:=uj nd λx hx=>hL x<|hc x hx;exact(fN _<|aV h (by rw[aX];exact af hl this)).elim
 | succ n ih=>
  intro V c h nd hc hl;show ∃ds' c',(match c[V.length]? with
  | none=>some (V,c)
  | some x=>go B n (V++[(B x c).1]) (B x c).2)=some (ds',c')
  cases q:c[V.length]? with
  | none=>exact⟨V,c,rfl⟩
  | some x=>have g:=(hB x (hc x<|aN q) c).gw;exact ih (V++[(B x c).1]) (B x c).2 (by rw[aj];exact(Ln [L.length,n,V.length] (.w (.p 1 .x)<|.a .y<|.p 1 .z) [Gl (.p 1 .x)<|.a (.p 1 .y) .z] rfl h)) (g.nd nd) (g.ins hc) (by rw[aj];exact af (av.mp q).1 g.pre.length_le)
def lists(Sl:Sb) :Nat->List Sb
 | 0=>[[]]
 | m+1=>[]::Sl.flatMap λv=>(lists Sl m).map (v :: ·)
theorem y6{Sl:Sb} :∀{m:Nat}{l:Sb},l.length<=m->(∀v∈l,v∈Sl)->l∈lists Sl m:=by intro m;induction m with
 | zero=>intro l h _;exact Er (mL<|Nat.le_zero.mp h) aa
 | succ m ih=>intro l h H;cases l with
  | nil=>exact aa
  | cons v l=>exact ac _<|List.mem_flatMap.mpr ⟨v,H v aa,aH.mpr ⟨l,ih (cG h) λw hw=>H w<|ac _ hw,rfl⟩⟩
def tj(G:List Hd) :List cY:=G.flatMap λh=>(lists Sl 2).map λl=>(h.nm,l)
theorem w5:∀G:List Hd,(tj G).length=G.length*463:=by
 intro G;have e:(lists Sl 2).length=463:=by kernel_rfl
 induction G with
 | nil=>rfl
 | cons h G ih=>
  show((lists Sl 2).map (λl=>(h.nm,l))++tj G).length=_
  refine Er aj ?_;rw[ai,e,ih,aD,Nat.succ_mul,cU]
section
variable {G:List Hd}{fs:List ij}{d:Nat}
theorem Pg.all(P:Pg G fs d)(x:cY)(u:Us G x) :x∈tj G:=
 aR u.mem λh q=>List.mem_flatMap.mpr ⟨h,q.1,aH.mpr ⟨x.2,y6 (by rw[q.2.2];exact P.k2 h q.1) u.sl,by rw[q.2.1]⟩⟩
theorem Pg.len(P:Pg G fs d) :(tj G).length<=2315:=by rw[w5];exact Nat.mul_le_mul_right 463 P.h5
theorem Pg.cl(P:Pg G fs d){c:C}(nd:c.Nodup)(h:∀x∈c,Us G x) :c.length<=2315:=af (uj nd λx hx=>P.all x<|h x hx) P.len
theorem Pg.ends(P:Pg G fs d){n:Nat}(hn:2315<n){c:C}(nd:c.Nodup)(h:∀x∈c,Us G x) :∃ds' c',go (Bd G fs) n [] c=some (ds',c'):=
 GX (λx u=>P.all x u) (λx u c=>P.gr u c) n [] c (aL P.len hn) nd h (ba _)
end
noncomputable abbrev df(x:cY) :D:=.tuple [.str x.1,.tuple x.2]
def k7(k:Nat) :Str:=⟨(102::jR k).toArray⟩
open Classical in
noncomputable def eU:C->cY->Nat
 | [],_=>0
 | y::c,x=>if y=x then 0 else eU c x+1
mutual
noncomputable def jx(c:C) :R->T
 | .val d=>.val d
 | .nam x=>.nam x
 | .ref x=>.ref x
 | .iff a b e=>.iff [jx c a,jx c b,jx c e]
 | .doo op ps=>.doo op<|toTs c ps
 | .call f ks ps=>.call (k7<|eU c (f,ks))<|toTs c ps
noncomputable def toTs(c:C) :List R->List T
 | []=>[]
 | r::rs=>jx c r::toTs c rs
end
abbrev encM(c:C)(r:R) :D:=cz<|jx c r
abbrev Jh(c:C)(ps:List R) :Sb:=encs<|toTs c ps
theorem gC{c:C}(ps:List R) :toTs c ps=ps.map (jx c):=by induction ps with
 | nil=>rfl
 | cons r rs ih=>show _::_=_::_;exact Er ih rfl
theorem m7{c:C}(ps:List R) :Jh c ps=ps.map (encM c):=by
 show encs (toTs c ps)=_
 rw[j4,gC,gx];rfl
theorem kI{c:C}{x:cY} :eU (x::c) x=0:=if_pos rfl
theorem iZ{c:C}{x y:cY}(h:y≠x) :eU (y::c) x=eU c x+1:=if_neg h
theorem GV{x:cY} :∀{c e:C},x∈c->eU (c++e) x=eU c x:=by intro c;induction c with
 | nil=>intro e h;cases h
 | cons y c ih=>
  intro e h;by_cases q:y=x
  .exact Er q (Er iw<|Er kI<|Er kI rfl)
  .exact Er iw (Er (iZ q)<|Er (iZ q)<|Er (ih<|(am.mp h).resolve_left λe=>q e.symm) rfl)
theorem GU{x:cY}{c c':C}(h:x∈c)(p:c <+:c') :eU c' x=eU c x:=by obtain⟨e,rfl⟩:=p;exact GV h
theorem x6{x:cY} :∀{c:C},x∉c->eU (c++[x]) x=c.length:=by intro c;induction c with
 | nil=>intro _;exact if_pos rfl
 | cons y c ih=>intro h;refine Er iw<|Er (iZ (λe=>h (by refine Er e ?_;exact aa)))<|Er (ih λq=>h<|ac _ q) ?_;rfl
theorem Cy{x:cY} :∀{c:C},x∈c->eU c x<c.length:=by intro c;induction c with
 | nil=>intro h;cases h
 | cons y c ih=>
  intro h;by_cases q:y=x
  .exact Er q (Er kI<|Nat.zero_lt_succ _)
  .exact Er (iZ q) (Nat.succ_lt_succ<|ih<|(am.mp h).resolve_left λe=>q e.symm)
theorem ER{c c':C}(p:c <+:c') :∀{n:Nat}{r:R},Rk A ns c n r->jx c' r=jx c r:=by intro n;induction n with
 | zero=>exact λh=>h.elim
 | succ n ih=>
  intro r h;have l:∀{ps:List R},(∀p∈ps,Rk A ns c n p)->toTs c' ps=toTs c ps:=λ{ps} h=>by rw[gC,gC];exact dG λp hp=>ih<|h p hp
  cases r with
  | val d=>rfl
  | nam d=>rfl
  | ref d=>rfl
  | iff a b e=>show T.iff [jx c' a,jx c' b,jx c' e]=_;refine Er (ih h.1)<|Er (ih h.2.1)<|Er (ih h.2.2) ?_;rfl
  | doo op ps=>show T.doo op (toTs c' ps) = .doo op (toTs c ps);exact Er (l h.2) rfl
  | call f ks ps=>show T.call (k7<|eU c' (f,ks)) (toTs c' ps) = .call (k7<|eU c (f,ks)) (toTs c ps);exact Er (l h.2.2)<|Er (GU h.1 p) rfl
theorem ms{c c':C}(p:c <+:c')(h:Rk A ns c n r) :encM c' r=encM c r:=congrArg cz<|ER p h
theorem J4:Sl.all (λd=>decide<|d.depth<=4)=true:=by kernel_rfl
theorem qZ:∀{V:Sb},(∀d∈V,d.depth<=m)->PyData.depthAll V<=m:=by intro V;induction V with
 | nil=>exact λj0_=>ba _
 | cons d V ih=>exact λh=>jv.mpr ⟨h d aa,ih λe he=>h e<|ac _ he⟩
structure KC(x:cY) :Prop where
 key:iX (df x)=true
 dep:(df x).depth<=6
theorem Us.kc{x:cY}(u:Us G x) :KC x:=by
 refine⟨?_,?_⟩
 .show(true&&(keyDs x.2&&true))=true
  refine Er (ze.mpr λk hk=>(nE<|u.sl k hk).key) ?_;rfl
 .have:=qZ (m:=4) (V:=x.2) λk hk=>aF (aB.mp J4 k<|u.sl k hk)
  exact dh<|jv.mpr ⟨ba _,(jv.mpr ⟨dh this,ba _⟩)⟩
theorem KC.ok{x:cY}(h:KC x) :iD (df x)=true:=
 ao.mpr ⟨h.key,ak<|aV (Nat.lt_of_succ_le h.dep) (by decide)⟩
theorem Dn{x y:cY}(h:df x=df y) :x=y:=by obtain⟨a,b⟩:=x;cases h;rfl
theorem KC.eqn{x y:cY}(hx:KC x)(hy:KC y) :x≠y->PyData.eqv (df x) (df y)=false:=λh=>we hx.key hy.key λe=>h<|Dn e
theorem KC.self{x:cY}(hx:KC x) :PyData.eqv (df x) (df x)=true:=jW _ hx.key
def g6:Nat->C->Sj
 | _,[]=>[]
 | k,x::c=>(df x,.int k)::g6 (k+1) c
theorem EV:∀{c:C}{k:Nat},(g6 k c).length=c.length:=by intro c;induction c with
 | nil=>intro _;rfl
 | cons x c ih=>intro k;exact congrArg (· + 1) ih
theorem xr{x:cY} :∀{c:C}{k:Nat},g6 k (c++[x])=g6 k c++[(df x,.int (k+c.length:Nat))]:=by intro c;induction c with
 | nil=>intro k;rfl
 | cons y c ih=>
  intro k;show _::g6 (k+1) (c++[x])=_::(g6 (k+1) c++_)
  refine Er ih<|Er (show k+1+c.length=k+(c.length+1) from d7 k c.length) ?_;rfl
section
variable {x:cY}(hx:KC x)
include hx
theorem xq:∀{c:C}{k:Nat},(∀y∈c,KC y)->(x∈c->dP (df x) (g6 k c)=some (.int (k+eU c x:Nat)))/\(x∉c->dP (df x) (g6 k c)=none):=by intro c;induction c with
 | nil=>intro k _;exact⟨λh=>(bc h).elim,λj0_=>rfl⟩
 | cons y c ih=>
  intro k h;have e:dP (df x) (g6 k (y::c))=if PyData.eqv (df y) (df x)=true then some (.int k) else dP (df x) (g6 (k+1) c):=rfl
  have i:=ih (k:=k+1) λz hz=>h z<|ac _ hz;by_cases q:y=x
  .rw[e,q,if_pos hx.self];exact⟨λj0_=>by rw[kI];rfl,λn=>absurd aa n⟩
  .rw[e,(h y aa).eqn hx q,if_neg gy];refine⟨λm=>?_,λn=>i.2 λm=>n<|ac _ m⟩;rw[i.1<|(am.mp m).resolve_left λe=>q e.symm,iZ q,d7]
end
theorem H6:(List.range 2316).all (λk=>decide<|(jR k).length<=10)=true:=by kernel_rfl
structure Q7(k:Nat) :Prop where
 str:pI .str [.int (k:Nat)]=some (.fz<|.str ⟨(jR k).toArray⟩)
 add:op2 .add (SC [102]) (.str ⟨(jR k).toArray⟩)=some (.fz<|.str<|k7 k)
theorem EY{k:Nat}(h:k<=2315) :Q7 k:=by
 have:=aF<|aB.mp H6 k<|aW.mpr<|eF h;refine⟨if_pos ⟨aL h (by decide),af this (by decide)⟩,?_⟩;show(if 1+(jR k).toArray.size<=Sz then some (Rv.fz<|.str ⟨#[102]++(jR k).toArray⟩) else none)=_
 refine Er (if_pos (by refine Er ax ?_;show 1+(jR k).length<=16777216;omega)) ?_;show some (Rv.fz<|.str ⟨#[102]++(jR k).toArray⟩)=some (.fz<|.str ⟨(102::jR k).toArray⟩)
 exact Er (show #[102]++(jR k).toArray=(102::jR k).toArray by simp) rfl
abbrev jT(fd sd:Sj)(c:C) :List Slot:=[.own<|.dict fd,.fz<|.dict sd,.own<|.list<|c.map df,.tab<|g6 0 c,.no,.no,.no,.no]
structure CK(G:List Hd)(c:C) :Prop where
 nd:c.Nodup
 us:∀x∈c,Us G x
 le:c.length<=2315
theorem Mq{c:C}{x:cY}(h:x∈c) :jt c x=c:=by unfold jt;exact if_pos h
theorem yq{c:C}{x:cY}(h:x∉c) :jt c x=c++[x]:=by unfold jt;exact if_neg h
theorem xR(n:Nat)(fd sd:Sj){c:C}{x:cY}(k:CK G c)(u:Us G x) :
  cF P (n+1) 45 (jT fd sd c++[.fz<|.str x.1,.fz<|.tuple x.2])=some (.ok<|.fz<|.str<|k7<|eU (jt c x) x,jT fd sd<|jt c x):=by
 have ko:=u.kc.ok;have tg:=xq u.kc (c:=c) (k:=0) λy hy=>(k.us y hy).kc;by_cases q:x∈c
 .refine Er (Mq q) ?_;have h1:=tg.1 q;have h2:(dP (df x)<|g6 0 c).isNone=false:=by refine Er h1 ?_;rfl
  rw[aX]at h1;have Q:=EY<|af (oa<|Cy q) k.le;exact bB [.t 0<|ko,.t 0<|h2,.t 1<|ko,.d 0<|h1,.v 0<|Q.1,.v 0<|Q.2]
 .refine Er (yq q) (Er (x6 q) ?_);have h2:(dP (df x)<|g6 0 c).isNone=true:=by refine Er (tg.2 q) ?_;rfl
  have ex:df x = .tuple [.str x.1,.tuple x.2]:=rfl;have h5:decide (iD (df x)=true/\dP (df x) (g6 0 c)=none/\(g6 0 c).length<Sz)=true:=ak ⟨ko,tg.2 q,by refine Er EV ?_;have:=k.le;show c.length<16777216;exact(Ln [List.length c] (.w (.p 1 .x)<|.c 16777216) [Gl .x<|.c 2315] rfl this)⟩;have h6:decide ((c.map df).length<Sz)=true:=ak (by rw[ai];have:=k.le;show c.length<16777216;exact(Ln [List.length c] (.w (.p 1 .x)<|.c 16777216) [Gl .x<|.c 2315] rfl this));have h1:dP (df x) (g6 0 c++[(df x,.int ((c.map df).length:Nat))])=some (.int c.length):=by have:=(xq u.kc (c:=c++[x]) (k:=0) λy hy=>(cS.mp hy).elim (λh=>(k.us y h).kc) λh=>by refine Er (aJ.mp h) ?_;exact u.kc).1<|aE _ aa;rw[xr,x6 q,aX]at this;rw[ai];exact this
  have z:=EY k.le;have e1:(c++[x]).map df=c.map df++[df x]:=by refine Er aY ?_;rfl
  have e2:g6 0 (c++[x])=g6 0 c++[(df x,.int ((c.map df).length:Nat))]:=by refine Er xr ?_;rw[aX,ai]
  exact Er (show jT fd sd (c++[x])=[.own<|.dict fd,.fz<|.dict sd,.own<|.list<|(c++[x]).map df,.tab<|g6 0<|c++[x],.no,.no,.no,.no] from rfl)<|Er e1<|Er e2<|bB [.t 0<|ko,.t 0<|h2,.v 1<|(rfl:pI .len [.list<|c.map df]=some (.fz<|.int ((c.map df).length:Nat))),.t 0<|h5,.t 0<|h6,.t 0<|ko,.d 0<|h1,.v 0<|z.1,.v 0<|z.2]
theorem M9(n:Nat)(c:C){op:Str}{O:Sb}(ho:jY op=true)(hl:c8 op O.length=true)(hv:∀v∈O,Vg v) :
  cF P (n+61) 12 [vK op,.fz<|.list O]=gK (encM c (match dn op O with
  | .ok v=>.val v
  | .error e=>.ref e)):=by
 have h:=yi n ho hl hv;have g:=yj ho hl hv;cases q:dn op O with
 | ok v=>have h:=q▸h;exact bB [.c 0<|h]
 | error e=>
  rw[q]at h g;have g:e∈fy:=g;simp only[am,bc,fh]at g;rcases g with rfl | rfl | rfl | rfl | rfl | rfl
  .exact bB [.c 0<|h]
  .exact bB [.c 0<|h]
  .exact bB [.c 0<|h]
  .exact bB [.c 0<|h]
  .exact bB [.c 0<|h]
  .exact bB [.c 0<|h]
def R.tag:R->Str
 | .val _=>ml
 | .nam _=>Ch
 | .ref _=>fc
 | .iff _ _ _=>iY
 | .doo _ _=>jX
 | .call _ _ _=>dQ
theorem rO(r:R) :bZ .eq (.str r.tag) (.str fc)=some r.isRef:=by cases r <;> kernel_rfl
theorem rN(r:R) :bZ .ne (.str r.tag) (.str ml)=some r.opn:=by cases r <;> kernel_rfl
theorem xp(c:C)(r:R) :jE (encM c r) (.int 0)=some (.str r.tag):=by cases r <;> rfl
theorem yA(N:Nat)(c:C)(a0 a1 a2 a3 a4 a5 a6 a7 a8 a9 a10 a11 a12 a13 a14 a15:Slot) :∀(os:List R)(s:Slot),(∀x∈os,x.opn=false)->
  dC ⟨P.glob,cF P N,[0,1,2,3,4,5,6,7],false,bT P⟩ [a0,a1,a2,a3,a4,a5,a6,a7,a8,a9,a10,a11,a12,a13,a14,a15,s] (.idx rG eC) (.one 16) [] (os.map<|encM c)=some (.ok<|os.map R.v,[a0,a1,a2,a3,a4,a5,a6,a7,a8,a9,a10,a11,a12,a13,a14,a15,.no]):=by
 intro os;induction os with
 | nil=>intro s _;refine Er aZ ?_;rw[cI];rfl
 | cons x os ih=>intro s h;have hx:=h x aa;have q:=λs=>ih s λy hy=>h y<|ac _ hy;cases x with
  | val d=>exact Er ay<|p9 [.cp 1<|(q<|.fz<|encM c<|.val d)]
  | _=>cases hx
noncomputable abbrev Js(N:Nat)(G:List Hd)(fd sd SL:Sj)(t:T)(c:C) :Prop:=cF P N 49 (jT fd sd c++[.fz<|cz t,.fz<|.dict SL])=some (.ok<|.fz<|encM (lf G SL t c).2 (lf G SL t c).1,jT fd sd (lf G SL t c).2)
noncomputable def Py(f:R->C->Mv.Fm->Se dU×Mv.Fm)(g:Sb->List R->Bool->C->Se dU×Mv.Fm)(X:dc dU) :Lp->Prop
 | .ret r c=> ∃z,X=some (f r c z)
 | .next ks os o c=>X=some (g ks os o c)
theorem Py.st{l:Lp}(h:Py f g X l)(H:∀R,X=some R->No=some R) :Py f g No l:=by cases l with
 | ret r c=>exact aR h λz h=>⟨z,H _ h⟩
 | next ks os o c=>exact H _ h
noncomputable abbrev Re(fd sd SL:Sj)(a4 a5:Slot) :dc dU->Lp->Prop:=
 Py (λr c z=>(.ok<|.ret<|.fz<|encM c r,jT fd sd c++a4::a5 :: .fz (.dict SL)::z)) λj0_ os o c=>(.ok .next,jT fd sd c++[a4,a5,.fz<|.dict SL,.own<|.list<|os.map<|encM c,.fz<|.bool o,.no,.no,.no,.no])
noncomputable abbrev IJ(N:Nat)(fd sd SL:Sj)(t x:D)(c c1:C) :Prop:=cF P N 49 (jT fd sd c++[.fz t,.fz<|.dict SL])=some (.ok<|.fz x,jT fd sd c1)
theorem rY{c c':C}(p:c <+:c'){l:List R}(h:∀x∈l,Rk A ns c n x) :l.map (encM c')=l.map (encM c):=dG λx hx=>ms p<|h x hx
theorem Gw.ck{d:Nat}(SD:Pg G fs d){c c':C}(g:Gw (Us G) c c')(k:CK G c) :CK G c':=⟨g.nd k.nd,g.ins k.us,SD.cl (g.nd k.nd)<|g.ins k.us⟩
abbrev Jk(N:Nat)(fd sd SL:Sj)(a4 a5:Slot)(SJ:Sb)(c:C)(os:Sb)(o:Bool)(s9 s10:Slot) :dc dU:=
 dJ ⟨P.glob,cF P N,[0,1,2,3,4,5,6,7],false,bT P⟩ (jT fd sd c++[a4,a5,.fz<|.dict SL,.own<|.list os,.fz<|.bool o,s9,s10,.no,.no]) (.one 13) OZ [13,14] SJ
section
variable {N:Nat}{fd sd SL:Sj}{c c1:C}{a4 a5 s9 s10:Slot}{os SJ:Sb}{b b2:Bool}{t x:D}{w:Str}{R:Se dU×Mv.Fm}(h1:IJ N fd sd SL t x c c1)(t0:jE x (.int 0)=some (.str w))
include h1 t0
theorem QQ(t1:bZ .eq (.str w) (.str fc)=some true) :Jk N fd sd SL a4 a5 (t::SJ) c os false s9 s10=some (.ok<|.ret<|.fz x,jT fd sd c1++[a4,a5,.fz<|.dict SL,.own<|.list os,.fz<|.bool false,.fz t,.fz x,.no,.no]):=by
 (exact gI [.c 0 h1,.d 0<|t0,.b 0<|t1])
theorem QP(t1:bZ .eq (.str w) (.str fc)=some b)(hz:decide (os.length<Sz)=true)(i:Jk N fd sd SL a4 a5 SJ c1 (os++[x]) true (.fz t) (.fz x)=some R) :Jk N fd sd SL a4 a5 (t::SJ) c os true s9 s10=some R:=by cases b with
 | true=>(exact gI [.c 0 h1,.d 0<|t0,.b 0<|t1,.t 4<|hz,.lp 0 i])
 | false=>(exact gI [.c 0 h1,.d 0<|t0,.b 0<|t1,.t 3<|hz,.lp 0 i])
theorem QO(t1:bZ .eq (.str w) (.str fc)=some false)(t2:bZ .ne (.str w) (.str ml)=some b2)(hz:decide (os.length<Sz)=true)(i:Jk N fd sd SL a4 a5 SJ c1 (os++[x]) b2 (.fz t) (.fz x)=some R) :Jk N fd sd SL a4 a5 (t::SJ) c os false s9 s10=some R:=by
 (exact gI [.c 0 h1,.d 0<|t0,.b 0<|t1,.d 3<|t0,.b 0<|t2,.t 0<|hz,.lp 0 i])
end
section
variable {N:Nat}{fd sd SL:Sj}{a4 a5:Slot}
theorem H5{o:Bool}{x:R}{c c1:C}{s9 s10:Slot}{SJ:Sb}{os:List R}{t:D}{L2:Lp}(h1:IJ N fd sd SL t (encM c1 x) c c1)
  (e:os.map (encM c1)=os.map (encM c)) (ho:os.length<Sz)
  (H2:Re fd sd SL a4 a5 (Jk N fd sd SL a4 a5 SJ c1 ((os++[x]).map<|encM c1) (o||x.opn) (.fz t)<|.fz<|encM c1 x) L2) :
  Re fd sd SL a4 a5 (Jk N fd sd SL a4 a5 (t::SJ) c (os.map<|encM c) o s9 s10) (eH (x.isRef && !o) (.ret x c1) L2):=by
 have t0:=xp c1 x;have t1:=rO x;have z2:decide ((os.map<|encM c1).length<Sz)=true:=ak<|ai (encM c1)▸ho;rw[<- e];rw[aY]at H2;cases o with
 | true=>rw[Bool.not_true,Bool.and_false];exact H2.st λR i=>QP h1 t0 t1 z2 i
 | false=>cases q:x.isRef with
  | true=>exact⟨_,QQ h1 t0<|q▸t1⟩
  | false=>exact H2.st λR i=>QO h1 t0 (q▸t1) (rN x) z2 i
theorem H4{G:List Hd}{ns:Sd}{fs:List ij}{d r:Nat}(SD:Pg G fs d) :∀ts SK o c s9 s10,(∀t∈ts, ∀c,CK G c->Js N G fd sd SL t c/\Gr (Us G) (nO G) ns r c (lf G SL t c))->
  CK G c->(∀x∈SK,Rk (nO G) ns c r x)->SK.length+ts.length<=1000->
  Re fd sd SL a4 a5 (Jk N fd sd SL a4 a5 (encs ts) c (SK.map<|encM c) o s9 s10) (cN [] SK o ((lfs G SL ts).map λf=>(f,false)) c):=by
 intro ts;induction ts with
 | nil=>intro SK o c s9 s10 _ _ _ _;exact b4 ..
 | cons t ts ih=>
  intro SK o c s9 s10 H k ha hl;have hg:=H t aa c k;have g:=hg.2.gw;have hl:=aD▸hl;exact H5 hg.1 (rY g.pre ha) (Ln [SK.length,ts.length] (.w (.p 1 .x)<|.c 16777216) [Gl (.a .x<|.p 1 .y)<|.c 1000] rfl hl)
   (ih _ _ _ _ _ (λu hu=>H u<|ac _ hu) (g.ck SD k) (mF (λy hy=>(ha y hy).mono g.pre<|aQ _) hg.2.rk) (by refine Er aj<|Er cu ?_;omega))
end
section
variable {G:List Hd}{ns:Sd}{fs:List ij}{d r N:Nat}{fd sd SL:Sj}
theorem K2(SD:Pg G fs d){op:Str}(ho:jY op=true)(hl:c8 op ps.length=true)(H:∀t∈ps, ∀c,CK G c->Js (N+61) G fd sd SL t c/\Gr (Us G) (nO G) ns r c (lf G SL t c))(H':∀t∈ps, ∀c,Gr (Us G) (nO G) ns r c<|lf G SL t c){c:C}(k:CK G c) :
  cF P (N+62) 46 (jT fd sd c++[vK op,.fz<|.tuple<|encs ps,.fz<|.dict SL])=some (.ok<|.fz<|encM (lf G SL (.doo op ps) c).2 (lf G SL (.doo op ps) c).1,jT fd sd (lf G SL (.doo op ps) c).2):=by
 have lp:=H4 (a4:=vK op) (a5:=.fz<|.tuple<|encs ps) SD (fd:=fd) (sd:=sd) ps [] false c .no .no H k (λj0_ h=>by cases h) (by have:=jK hl;show 0+ps.length<=1000;exact(Ln [ps.length] (.w (.a (.c 0) .x)<|.c 1000) [Gl .x<|.c 8] rfl this));have lk:=DD H' (jK hl) c;refine Er (show lf G SL (.doo op ps) c=MY op (cN [] [] false ((lfs G SL ps).map λf=>(f,false)) c) from rfl) ?_;generalize cN [] [] false ((lfs G SL ps).map λf=>(f,false)) c=l at lp lk |-;cases lk with
 | ret g=>exact aR lp λz lp=>bB [.lp 1<|lp]
 | @next ks os o c' g h1 h2 h3 h4 h5=>cases o with
  | true=>
   have e:encM c' (.doo op os) = .tuple [.str jX,.str op,.tuple<|os.map<|encM c']:=by rw[<- m7];rfl
   show _=some (Except.ok<|Rv.fz<|encM c'<|.doo op os,_)
   exact Er e<|bB [.lp 1<|lp]
  | false=>
   have ol:os.length=ps.length:=by rw[h2,aX]at h3;exact h3
   have wo:=M9 N c' (op:=op) (O:=os.map R.v) ho (by rw[ai];refine Er ol ?_;exact hl) λv hv'=>by obtain⟨p,hp,rfl⟩:=aH.mp hv';have a:=h4 p hp;have b:=(pJ h5.symm) p hp;cases p with
    | val d=>cases r with
     | zero=>exact a.elim
     | succ n=>exact a
    | _=>cases b
   exact bB [.lp 1<|lp,.cp 2<|(yA (N+61) c' (.own<|.dict fd) (.fz<|.dict sd) (.own<|.list<|c'.map df) (.tab<|g6 0 c') .no .no .no .no (vK op) (.fz<|.tuple<|encs ps) (.fz<|.dict SL) (.fz<|.list<|os.map<|encM c') (.fz<|.bool false) .no .no .no os .no<|pJ h5.symm),.c 0<|wo]
noncomputable abbrev PU(fd sd SL:Sj)(a4 a5:Slot) :dc dU->Lp->Prop:=
 Py (λr c z=>(.ok<|.ret<|.fz<|encM c r,jT fd sd c++a4::a5 :: .fz (.dict SL)::z)) λks os o c=>(.ok .next,jT fd sd c++[a4,a5,.fz<|.dict SL,.own<|.list ks,.own<|.list<|os.map<|encM c,.fz<|.bool o,.no,.no,.no,.no])
abbrev LP(p:T×Bool) :D:=.tuple [cz p.1,.bool p.2]
abbrev Al(N:Nat)(fd sd SL:Sj)(a4 a5:Slot)(SJ:Sb)(c:C)(ks os:Sb)(o:Bool)(s10 s11 s12:Slot) :dc dU:=
 dJ ⟨P.glob,cF P N,[0,1,2,3,4,5,6,7],false,bT P⟩ (jT fd sd c++[a4,a5,.fz<|.dict SL,.own<|.list ks,.own<|.list os,.fz<|.bool o,s10,s11,s12,.no]) (.tup [14,15]) O9 [14,15,16] SJ
section
variable {a4 a5 s10 s11 s12:Slot}{c c1:C}{ks os SJ E:Sb}{b o b2:Bool}{t x:D}{w:Str}{R:Se dU×Mv.Fm}(h1:IJ N fd sd SL t x c c1)(t0:jE x (.int 0)=some (.str w))
include h1 t0
theorem O8(t1:bZ .eq (.str w) (.str fc)=some true) :
  Al N fd sd SL a4 a5 (.tuple [t,.bool b]::SJ) c ks os false s10 s11 s12=some (.ok<|.ret<|.fz x,jT fd sd c1++[a4,a5,.fz<|.dict SL,.own<|.list ks,.own<|.list os,.fz<|.bool false,.fz t,.fz<|.bool b,.fz x,.no]):=by
 (exact gI [.c 0 h1,.d 0<|t0,.b 0<|t1])
theorem Q1(t1:bZ .eq (.str w) (.str fc)=some true)(ad:op2 .add (.list os) (.list [x])=some (.own<|.list E)) :
  Al N fd sd SL a4 a5 (.tuple [t,.bool true]::SJ) c ks os true s10 s11 s12=some (.ok<|.ret<|.fz<|.tuple [.str jX,.str b6,.tuple E],jT fd sd c1++[a4,a5,.fz<|.dict SL,.own<|.list ks,.own<|.list os,.fz<|.bool true,.fz t,.fz<|.bool true,.fz x,.no]):=by
 (exact gI [.c 0 h1,.d 0<|t0,.b 0<|t1,.d 4<|t0,.b 0<|t1,.v 1<|ad])
theorem Q0{u:D}(t1:bZ .eq (.str w) (.str fc)=some false)(t3:jE x (.int 1)=some u)(hz:decide (ks.length<Sz)=true)
  (i:Al N fd sd SL a4 a5 SJ c1 (ks++[u]) os o (.fz t) (.fz<|.bool true) (.fz x)=some R) :Al N fd sd SL a4 a5 (.tuple [t,.bool true]::SJ) c ks os o s10 s11 s12=some R:=by
 (exact gI [.c 0 h1,.d 0<|t0,.b 0<|t1,.d 3<|t0,.b 0<|t1,.d 2<|t3,.t 0<|hz,.lp 0 i])
theorem QZ(t1:bZ .eq (.str w) (.str fc)=some b)(hz:decide (os.length<Sz)=true)
  (i:Al N fd sd SL a4 a5 SJ c1 ks (os++[x]) true (.fz t) (.fz<|.bool false) (.fz x)=some R) :Al N fd sd SL a4 a5 (.tuple [t,.bool false]::SJ) c ks os true s10 s11 s12=some R:=by
 cases b with
 | true=>(exact gI [.c 0 h1,.d 0<|t0,.b 0<|t1,.t 6<|hz,.lp 1 i])
 | false=>(exact gI [.c 0 h1,.d 0<|t0,.b 0<|t1,.t 5<|hz,.lp 1 i])
theorem QY(t1:bZ .eq (.str w) (.str fc)=some false)(t2:bZ .ne (.str w) (.str ml)=some b2)(hz:decide (os.length<Sz)=true)
  (i:Al N fd sd SL a4 a5 SJ c1 ks (os++[x]) b2 (.fz t) (.fz<|.bool false) (.fz x)=some R) :Al N fd sd SL a4 a5 (.tuple [t,.bool false]::SJ) c ks os false s10 s11 s12=some R:=by
 (exact gI [.c 0 h1,.d 0<|t0,.b 0<|t1,.t 5<|hz,.d 1<|t0,.b 0<|t2,.lp 0 i])
end
theorem Ir{b o:Bool}{x:R}{c c1:C}{a4 a5 s10 s11 s12:Slot}{ks SJ:Sb}{os:List R}{t:D}{L1:D->Lp}{L2:Lp}(h1:IJ N fd sd SL t (encM c1 x) c c1)(tv:b=true->TV x)
  (e:os.map (encM c1)=os.map (encM c)) (hk:ks.length<Sz) (ho:os.length<Sz)
  (H1:∀v,PU fd sd SL a4 a5 (Al N fd sd SL a4 a5 SJ c1 (ks++[v]) (os.map<|encM c1) o (.fz t) (.fz<|.bool true)<|.fz<|encM c1 x)<|L1 v)
  (H2:PU fd sd SL a4 a5 (Al N fd sd SL a4 a5 SJ c1 ks ((os++[x]).map<|encM c1) (o||x.opn) (.fz t) (.fz<|.bool false)<|.fz<|encM c1 x) L2) :
  PU fd sd SL a4 a5 (Al N fd sd SL a4 a5 (.tuple [t,.bool b]::SJ) c ks (os.map<|encM c) o s10 s11 s12) (eH (x.isRef && !o) (.ret x c1)<|eH b (eH x.isRef (.ret (.doo b6<|os++[x]) c1)<|L1 x.v) L2):=by
 have t0:=xp c1 x;have t1:=rO x;have z2:(os.map<|encM c1).length<Sz:=ai (encM c1)▸ho;rw[<- e];rw[aY]at H2;cases b with
 | true=>cases tv rfl with
  | @ref w=>cases o with
   | false=>exact⟨_,O8 h1 t0 t1⟩
   | true=>
    have A:op2 .add (.list<|os.map<|encM c1) (.list [encM c1<|.ref w])=some (.own<|.list<|Jh c1<|os++[.ref w]):=by rw[m7,aY];exact(vQ _ _).trans<|if_pos z2
    exact⟨_,Q1 h1 t0 t1 A⟩
  | @val v hv=>exact(H1 v).st λR i=>Q0 h1 t0 t1 rfl (ak hk) i
 | false=>cases o with
  | true=>rw[Bool.not_true,Bool.and_false];exact H2.st λR i=>QZ h1 t0 t1 (ak z2) i
  | false=>cases q:x.isRef with
   | true=>exact⟨_,O8 h1 t0<|q▸t1⟩
   | false=>exact H2.st λR i=>QY h1 t0 (q▸t1) (rN x) (ak z2) i
theorem Iq(SD:Pg G fs d){a4 a5:Slot} :∀(ps:List (T×Bool))(ks:Sb)(os:List R)(o:Bool)(c:C)(s10 s11 s12:Slot),(∀p∈ps, ∀c,CK G c->Js N G fd sd SL p.1 c/\Gr (Us G) (nO G) ns r c (lf G SL p.1 c))->(∀p∈ps,p.2=true-> ∀c,TV (lf G SL p.1 c).1)->
  CK G c->(∀x∈os,Rk (nO G) ns c r x)->ks.length+os.length+ps.length<=1000->
  PU fd sd SL a4 a5 (Al N fd sd SL a4 a5 (ps.map LP) c ks (os.map<|encM c) o s10 s11 s12) (cN ks os o (ps.map λp=>(lf G SL p.1,p.2)) c):=by
 intro ps;induction ps with
 | nil=>intro ks os o c s10 s11 s12 _ _ _ _ _;exact b4 ..
 | cons p ps ih=>
  intro ks os o c s10 s11 s12 H HT k ha hl;have hg:=H _ aa c k;have g:=hg.2.gw;have hl:=aD▸hl;have ih:=λks os o s10 s11 s12=>ih ks os o (lf G SL p.1 c).2 s10 s11 s12 (λu hu=>H u<|ac _ hu) (λu hu=>HT u<|ac _ hu)<|g.ck SD k;have ha1:∀y∈os,Rk (nO G) ns (lf G SL p.1 c).2 r y:=λy hy=>(ha y hy).mono g.pre<|aQ _;exact Ir (L1:=λv=>cN (ks++[v]) os o (ps.map λp=>(lf G SL p.1,p.2)) (lf G SL p.1 c).2) hg.1 (λe=>HT _ aa e c) (rY g.pre ha)
   (Ln [ks.length,os.length,ps.length] (.w (.p 1 .x)<|.c 16777216) [Gl (.a (.a .x .y)<|.p 1 .z)<|.c 1000] rfl hl) (Ln [os.length,ks.length,ps.length] (.w (.p 1 .x)<|.c 16777216) [Gl (.a (.a .y .x)<|.p 1 .z)<|.c 1000] rfl hl)
   (λv=>ih _ _ _ _ _ _ ha1 (by refine Er aj<|Er cu ?_;omega))
   (ih _ _ _ _ _ _ (mF ha1 hg.2.rk) (by rw[aj,cu];omega))
end
noncomputable def dq(G:List Hd) :Sj:=G.map λh=>(.str h.nm,.tuple<|h.wn.map .bool)
theorem mT:∀{G:List Hd},(G.map (·.nm)).Nodup->h∈G->bU (dq G) h.nm=some (.tuple<|h.wn.map .bool):=by intro G;induction G with
 | nil=>exact λj0_ m=>by cases m
 | cons g G ih=>
  intro nd m;rw[ay,bh]at nd;show(if g.nm=h.nm then some (PyData.tuple<|g.wn.map .bool) else bU (dq G) h.nm)=_
  rcases am.mp m with rfl | m
  .exact if_pos rfl
  .exact Er (if_neg λe=>nd.1<|aH.mpr ⟨h,m,e.symm⟩) (ih nd.2 m)
theorem oF:∀ts bs,gT (encs ts) (bs.map .bool)=(ts.zip bs).map LP:=by intro ts;induction ts with
 | nil=>intro bs;cases bs <;> rfl
 | cons t ts ih=>intro bs;cases bs with
  | nil=>rfl
  | cons b bs=>show _::_=_::_;rw[ih];rfl
section
variable {G:List Hd}{fs:List ij}{d r N:Nat}{fd SL:Sj}{kn ns:Sd}
theorem BP(SD:Pg G fs d)(hm:h∈G)(hh:∀x∈kn, ∃v,bU SL x=some v/\v∈Sl)(hl:ps.length=h.wn.length)(htm:∀p∈ps.zip h.wn,p.2=true->Tm kn p.1)
  (H:∀t∈ps, ∀c,CK G c->Js (N+61) G fd (dq G) SL t c/\Gr (Us G) (nO G) ns r c (lf G SL t c)) (H':∀t∈ps, ∀c,Gr (Us G) (nO G) ns r c<|lf G SL t c) {c:C} (k:CK G c) :
  cF P (N+62) 47 (jT fd (dq G) c++[vK h.nm,.fz<|.tuple<|encs ps,.fz<|.dict SL])=some (.ok<|.fz<|encM (lf G SL (.call h.nm ps) c).2 (lf G SL (.call h.nm ps) c).1,jT fd (dq G) (lf G SL (.call h.nm ps) c).2):=by
 have h6:h.wn.length<=6:=by exact Er (SD.wn h hm)<|SD.le h hm
 have e:((ps.zip h.wn).map λp=>(lf G SL p.1,p.2))=(lfs G SL ps).zip h.wn:=by rw[iC];refine Er List.zip_map_left ?_;rfl
 have lp:=Iq SD (a4:=vK h.nm) (a5:=.fz<|.tuple<|encs ps) (fd:=fd) (sd:=dq G) (ps.zip h.wn) [] [] false c .no .no .no (λp hp=>H p.1 (jb (a:=p.1) (b:=p.2) hp).1) (λp hp e c=>(AH hh (htm p hp e) c).2) k (λj0_ h=>by cases h)
  (by refine Er List.length_zip ?_;rw[hl,Nat.min_self];show 0+0+h.wn.length<=1000;exact(Ln [h.wn.length] (.w (.a (.p 0<|.c 0) .x)<|.c 1000) [Gl .x<|.c 6] rfl h6))
 have lk:=yl hh H' hl htm (by refine Er hl ?_;exact(Ln [h.wn.length] (.w .x<|.c 8) [Gl .x<|.c 6] rfl h6)) c;refine Er (show lf G SL (.call h.nm ps) c=u9 h.nm (cN [] [] false ((lfs G SL ps).zip<|lV G h.nm) c) from rfl)<|Er (qH SD.nd hm) ?_;rw[e]at lp;generalize cN [] [] false ((lfs G SL ps).zip h.wn) c=l at lp lk |-;cases lk with
 | ret g=>exact aR lp λz lp=>bB [.d 0<|(mT SD.nd hm),.l 0<|(congrArg some<|oF ps h.wn),.lp 0<|lp]
 | @next ks os o c' g h1 h2 h3 h4 h5=>
  have u:Us G (h.nm,ks):=⟨⟨h,hm,rfl,h2⟩,h1⟩
  have nm:=xR (N+60) fd (dq G) (g.ck SD k) u;have e:encM (jt c' (h.nm,ks)) (.call h.nm ks os) = .tuple [.str dQ,.str<|k7<|eU (jt c' (h.nm,ks)) (h.nm,ks),.tuple<|os.map<|encM c']:=by rw[<- rY (.add u:Gw (Us G) c' (jt c' (h.nm,ks))).pre h4,<- m7];rfl
  show _=some (Except.ok<|Rv.fz<|encM (jt c' (h.nm,ks))<|.call h.nm ks os,_)
  refine Er e ?_;generalize k7 (eU (jt c' (h.nm,ks)) (h.nm,ks))=w at nm |-;exact bB [.d 0<|(mT SD.nd hm),.l 0<|(congrArg some<|oF ps h.wn),.lp 0<|lp,.c 1<|nm]
theorem K3(SD:Pg G fs d){a b e:T}(H:∀t,t=a\/t=b\/t=e-> ∀c,CK G c->Js (N+1) G fd sd SL t c/\Gr (Us G) (nO G) ns r c (lf G SL t c)){c:C}(k:CK G c) :
  cF P (N+2) 48 (jT fd sd c++[.fz<|cz<|.iff [a,b,e],.fz<|.dict SL])=some (.ok<|.fz<|encM (lf G SL (.iff [a,b,e]) c).2 (lf G SL (.iff [a,b,e]) c).1,jT fd sd (lf G SL (.iff [a,b,e]) c).2):=by
 have hb:=λc k=>H b (.inr<|.inl rfl) c k;have he:=λc k=>H e (.inr<|.inr rfl) c k;refine Er (show lf G SL (.iff [a,b,e]) c=Ow (lf G SL b) (lf G SL e) (lf G SL a c) from rfl) ?_;obtain⟨h1,g⟩:=(H a (.inl rfl) c k)
 delta Js at h1;generalize lf G SL a c=p at h1 g |-;obtain⟨x,c1⟩:=p;obtain⟨hb1,gb⟩:=hb c1<|g.gw.ck SD k;obtain⟨he1,ge⟩:=he c1<|g.gw.ck SD k;have k2:=gb.gw.ck SD<|g.gw.ck SD k;obtain⟨he2,ge2⟩:=he _ k2;delta Js at hb1 he1 he2;have three:Rk (nO G) ns c1 r x->x.isRef=false->x.opn=true->cF P (N+2) 48 (jT fd sd c++[.fz<|cz<|.iff [a,b,e],.fz<|.dict SL])=some (.ok<|.fz<|encM (lf G SL e (lf G SL b c1).2).2<|.iff x (lf G SL b c1).1 (lf G SL e (lf G SL b c1).2).1,jT fd sd (lf G SL e (lf G SL b c1).2).2):=λhx q1 q2=>by
  have t1:=rO x;have t2:=rN x;rw[q1]at t1;rw[q2]at t2;have ee:encM (lf G SL e (lf G SL b c1).2).2 (.iff x (lf G SL b c1).1 (lf G SL e (lf G SL b c1).2).1) = .tuple [.str iY,encM c1 x,encM (lf G SL b c1).2 (lf G SL b c1).1,encM (lf G SL e (lf G SL b c1).2).2 (lf G SL e (lf G SL b c1).2).1]:=by refine Er (ms (gb.gw.pre.trans ge2.gw.pre) hx).symm<|Er (ms ge2.gw.pre gb.rk).symm ?_;rfl
  refine Er ee ?_;generalize lf G SL b c1=q at hb1 he2 |-;have y:=q.1;have c2:=q.2;generalize lf G SL e c2=q at he2 |-;exact bB [.c 1<|h1,.d 0<|(xp c1 x),.b 0<|t1,.d 1<|(xp c1 x),.b 0<|t2,.c 2<|hb1,.c 1<|he2]
 cases x with
 | val v=>
  have hv:Vg v:=by cases r with
   | zero=>exact g.rk.elim
   | succ r=>exact g.rk
  rcases hv.k with⟨i,rfl,_⟩ | ⟨l,rfl,_⟩
  .have ce:bZ .eq (.int i) (.int 0)=some (i==0):=rfl;show _=some (Except.ok<|Rv.fz<|encM (eH (i==0) (lf G SL e c1)<|lf G SL b c1).2 (eH (i==0) (lf G SL e c1)<|lf G SL b c1).1,jT fd sd (eH (i==0) (lf G SL e c1)<|lf G SL b c1).2)
   generalize lf G SL b c1=q at hb1 |-;generalize lf G SL e c1=q' at he1 |-;obtain⟨y,c2⟩:=q;cases q:i==0 with
   | true=>rw[q]at ce;exact bB [.c 1<|h1,.b 10<|ce,.c 2<|he1]
   | false=>rw[q]at ce;dsimp only[eH];exact bB [.c 1<|h1,.b 10<|ce,.c 2<|hb1]
  .exact bB [.c 1<|h1]
 | ref w=>exact bB [.c 1<|h1]
 | nam x=>exact three g.rk rfl rfl
 | iff x y z=>exact three g.rk rfl rfl
 | doo x y=>exact three g.rk rfl rfl
 | call x y z=>exact three g.rk rfl rfl
end
section
variable {G:List Hd}{fs:List ij}{d:Nat}{fd SL:Sj}{kn ns all:Sd}
theorem B4(SD:Pg G fs d)(hh:∀x∈kn, ∃v,bU SL x=some v/\v∈Sl)(hv:∀x v,bU SL x=some v->Vg v)(ho:∀x∈all,bU SL x=none->x∈ns) :∀r t,Ok G kn all r t-> ∀n c,CK G c->Js (n+2*r+61) G fd (dq G) SL t c:=by intro r;have gr:=B0 SD.nd (λh hm=>by refine Er (SD.wn h hm) ?_;exact SD.le h hm) hh hv ho;induction r with
 | zero=>exact λj0_ h=>h.elim
 | succ r ih=>intro t ht n c k;generalize hN:n+2*r=N;cases t with
  | val v=>show _=some (Except.ok<|Rv.fz<|encM c<|.val v,jT fd (dq G) c);exact bB []
  | ref x=>show _=some (Except.ok<|Rv.fz<|encM c<|.ref x,jT fd (dq G) c);exact bB []
  | nam x=>
   show _=some (Except.ok (Rv.fz (encM c (match bU SL x with
   | some v=>R.val v
   | none=>R.nam x))),jT fd (dq G) c)
   have hi:Lm (.str x) (.dict SL)=some (bU SL x).isSome:=rfl;have hx:jE (.dict SL) (.str x)=bU SL x:=rfl;generalize bU SL x=q at hi hx;cases q with
   | some v=>exact bB [.b 8<|hi,.d 2<|hx]
   | none=>exact bB [.b 8<|hi]
  | iff ps=>
   refine m5 (B3 ht.1) λa b e Q=>?_;subst Q;have h:=K3 (N:=N+60) (fd:=fd) (sd:=dq G) (SL:=SL) (a:=a) (b:=b) (e:=e) SD (λt q c k=>by
    have m:t∈ [a,b,e]:=by rcases q with rfl | rfl | rfl <;> simp
    exact⟨by have:=ih t (ht.2 t m) n c k;rw[hN]at this;exact this,gr r t (ht.2 t m) c⟩) k
   exact bB [.c 9<|h]
  | doo op ps=>have h:=K2 (N:=N) (fd:=fd) (sd:=dq G) (SL:=SL) SD ht.1.1 ht.1.2 (λt m c k=>⟨by have:=ih t (ht.2 t m) n c k;rw[hN]at this;exact this,gr r t (ht.2 t m) c⟩) (λt m c=>gr r t (ht.2 t m) c) k;exact bB [.c 13<|h]
  | call f ps=>obtain⟨⟨h,hm,rfl,hl,htm⟩,hp⟩:=ht;have h:=BP (N:=N) (fd:=fd) (SL:=SL) SD hm hh hl htm (λt m c k=>⟨by have:=ih t (hp t m) n c k;rw[hN]at this;exact this,gr r t (hp t m) c⟩) (λt m c=>gr r t (hp t m) c) k;exact bB [.c 13<|h]
end
noncomputable abbrev Do(p:Str×Bool) :D:=.tuple [.str p.1,.bool p.2]
theorem oG:∀(ps:Sd)(bs:Sp),gT (ps.map .str) (bs.map .bool)=(ps.zip bs).map Do:=by intro ts;induction ts with
 | nil=>intro bs;cases bs <;> rfl
 | cons t ts ih=>intro bs;cases bs with
  | nil=>rfl
  | cons b bs=>show _::_=_::_;rw[ih];rfl
theorem GD(N:Nat)(a0 a1 a2 a3 a4 a5 a6 a7 a8 a9 a10 a11 a12 a13 a14 a15 a16 a19 a20:Slot) :∀(ps:Sd)(bs:Sp)(s13 s14:Slot),
  dC ⟨P.glob,cF P N,[0,1,2,3,4,5,6,7],false,bT P⟩ [a0,a1,a2,a3,a4,a5,a6,a7,a8,a9,a10,a11,a12,a13,a14,a15,a16,s13,s14,a19,a20] M7 (.tup [17,18]) [M6] ((ps.zip bs).map Do)=some (.ok<|(eL ps bs).map .str,[a0,a1,a2,a3,a4,a5,a6,a7,a8,a9,a10,a11,a12,a13,a14,a15,a16,.no,.no,a19,a20]):=by
 intro ps;induction ps with
 | nil=>intro bs s13 s14;cases bs <;> (refine Er List.zip_nil_left ?_;rw[aZ,cI];rfl)
 | cons x ps ih=>intro bs s13 s14;cases bs with
  | nil=>refine Er pS ?_;rw[aZ,cI];rfl
  | cons b bs=>have q:=ih bs (.fz<|.str x)<|.fz<|.bool b;refine Er pU<|Er ay ?_;cases b with
   | true=>show _=some (Except.ok<|(x::eL ps bs).map _,_);exact Er ay<|p9 [.cp 1<|q]
   | false=>show _=some (Except.ok<|(eL ps bs).map _,_);exact p9 [.cp 1<|q]
theorem EJ(N:Nat)(a0 a1 a2 a3 a4 a5 a6 a7 a8 a9 a10 a11 a12 a13 a14 a15 a16 a17 a18:Slot) :∀(ps:Sd)(bs:Sp)(s15 s16:Slot),
  dC ⟨P.glob,cF P N,[0,1,2,3,4,5,6,7],false,bT P⟩ [a0,a1,a2,a3,a4,a5,a6,a7,a8,a9,a10,a11,a12,a13,a14,a15,a16,a17,a18,s15,s16] M5 (.tup [19,20]) [(.not M4)] ((ps.zip bs).map Do)=some (.ok<|(kW ps bs).map .str,[a0,a1,a2,a3,a4,a5,a6,a7,a8,a9,a10,a11,a12,a13,a14,a15,a16,a17,a18,.no,.no]):=by
 intro ps;induction ps with
 | nil=>intro bs s13 s14;cases bs <;> (refine Er List.zip_nil_left ?_;rw[aZ,cI];rfl)
 | cons x ps ih=>intro bs s13 s14;cases bs with
  | nil=>refine Er pS ?_;rw[aZ,cI];rfl
  | cons b bs=>have q:=ih bs (.fz<|.str x)<|.fz<|.bool b;refine Er pU<|Er ay ?_;cases b with
   | true=>show _=some (Except.ok<|(kW ps bs).map _,_);exact p9 [.cp 2<|q]
   | false=>show _=some (Except.ok<|(x::kW ps bs).map _,_);exact Er ay<|p9 [.cp 2<|q]
def fdOf(fs:List ij) :Sj:=fs.map λf=>(.str f.1.nm,.tuple [eP f.1.ps,cz f.2])
theorem LD:∀{fs:List ij}{x:Str}{f:ij},nX fs x=some f->bU (fdOf fs) x=some (.tuple [eP f.1.ps,cz f.2]):=by intro fs;induction fs with
 | nil=>intro x f h;exact bz h
 | cons g fs ih=>
  intro x f h;have h:(if g.1.nm=x then some g else nX fs x)=some f:=h;show(if g.1.nm=x then some (PyData.tuple [eP g.1.ps,cz g.2]) else bU (fdOf fs) x)=_
  by_cases q:g.1.nm=x
  .rw[if_pos q]at h |-;obtain rfl:=bO h;rfl
  .rw[if_neg q]at h |-;exact ih h
abbrev mu(fs:List ij)(k:Nat)(x:cY)(r:R)(c:C) :D:=.tuple [.str<|k7 k,eP<|qI fs x,encM c r]
theorem OJ{d:Nat}(SD:Pg G fs d)(n k:Nat){c:C}(ck:CK G c){x:cY}(hx:c[k]? = some x) :
  cF P (n+2*d+62) 50 (jT (fdOf fs) (dq G) c++[.fz<|.int k])=some (.ok<|.fz<|mu fs k x (Bd G fs x c).1 (Bd G fs x c).2,jT (fdOf fs) (dq G) (Bd G fs x c).2):=by
 have u:=ck.us x<|aN hx;obtain⟨f,q⟩:=SD.case u;have kl:k<c.length:=(av.mp hx).1;have h1:jE (.list<|c.map df) (.int k)=some (df x):=by
  show da (c.map df) (k:Int)=_
  unfold da;rw[if_pos<|cH _,cj,bn,hx];rfl
 have h2:=LD q.at';have h3:=mT SD.nd q.hm;rw[q.nm]at h3;have hz:di .zip [.tuple<|f.1.ps.map .str,.tuple<|f.1.wn.map .bool]=some ((f.1.ps.zip f.1.wn).map Do):=congrArg some<|oG f.1.ps f.1.wn;have hd:=HX q.kd q.kl q.k6;obtain⟨h4,h5⟩:=EY<|af (oa kl) ck.le;have kc:=GD (n+2*d+61) (.own<|.dict<|fdOf fs) (.fz<|.dict<|dq G) (.own<|.list<|c.map df) (.tab<|g6 0 c) .no .no .no .no (.fz<|.int k) (.fz<|.str x.1) (.fz<|.tuple x.2) (.fz<|eP f.1.ps) (.fz<|cz f.2) (.fz<|.tuple<|f.1.wn.map .bool) .no .no .no .no .no f.1.ps f.1.wn .no .no;have uc:=EJ (n+2*d+61) (.own<|.dict<|fdOf fs) (.fz<|.dict<|dq G) (.own<|.list<|c.map df) (.tab<|g6 0 c) .no .no .no .no (.fz<|.int k) (.fz<|.str x.1) (.fz<|.tuple x.2) (.fz<|eP f.1.ps) (.fz<|cz f.2) (.fz<|.tuple<|f.1.wn.map .bool) (.own<|.dict<|kv (eL f.1.ps f.1.wn) x.2) .no .no .no .no f.1.ps f.1.wn .no .no;have lf0:=B4 (fd:=fdOf fs) (SL:=kv (eL f.1.ps f.1.wn) x.2) (kn:=eL f.1.ps f.1.wn) SD (λy hy=>by obtain⟨v,e,hv⟩:=mZ hy q.kl;exact⟨v,e,u.sl v hv⟩) (λy v e=>nE<|u.sl v<|wb e) (ns:=kW f.1.ps f.1.wn) (λy hy e=>(IY (SD.wn _ q.hm) hy).elim (λk=>aR (mZ k q.kl) λv Q=>bz<|e.symm.trans Q.1) id) d f.2 (SD.ok f q.mem) n c ck;have lf:cF P (n+2*d+61) 49 (jT (fdOf fs) (dq G) c++[.fz<|cz f.2,.fz<|.dict<|kv (eL f.1.ps f.1.wn) x.2])=_:=lf0;have eb:Bd G fs x c=Lq.lf G (kv (eL f.1.ps f.1.wn) x.2) f.2 c:=by unfold Bd;rw[q.at'];rfl
 rw[eb];generalize Lq.lf G (kv (eL f.1.ps f.1.wn) x.2) f.2 c=p at lf |-;obtain⟨r,c1⟩:=p;have ef:mu fs k x r c1 = .tuple [.str<|k7 k,eP<|kW f.1.ps f.1.wn,encM c1 r]:=by show PyData.tuple [_,eP<|(nX fs x.1).elim [] _,_]=_;rw[q.at'];rfl
 show _=some (Except.ok<|Rv.fz<|mu fs k x r c1,jT (fdOf fs) (dq G) c1)
 rw[ef];generalize hN:n+2*d=N at *;exact bB [.d 0<|h1,.d 0<|h2,.d 0<|h3,.l 0<|hz,.cp 0<|kc,.v 0<|hd,.l 0<|hz,.cp 0<|uc,.v 1<|h4,.v 0<|h5,.c 0<|lf]
theorem KV{x:Str}(h:∀f∈fs,f.1.nm≠x) :Px (fdOf fs) x:=λp hp=>by obtain⟨f,q⟩:=aH.mp hp;obtain rfl:=q.2;intro e;cases e;exact h f q.1 rfl
theorem zh(N:Nat)(a4 a5:Slot) :∀fs SK s6 s7 s8,((SK++fs).map (·.1.nm)).Nodup->SK.length+fs.length<=100000->
  dJ ⟨P.glob,cF P N,[4,5,6,7],false,bT P⟩ [.own<|.dict<|fdOf SK,.no,.no,.no,.no,.no,.no,.no,a4,a5,s6,s7,s8,.no] (.tup [10,11,12]) GQ [10,11,12] (fs.map nY)=some (.ok .next,[.own<|.dict<|fdOf<|SK++fs,.no,.no,.no,.no,.no,.no,.no,a4,a5,.no,.no,.no,.no]):=by
 intro fs;induction fs with
 | nil=>intro SK s6 s7 s8 _ _;refine Er aZ ?_;rw[b4,aI];rfl
 | cons f fs ih=>
  intro SK s6 s7 s8 nd hl;have hl:=aD▸hl;have q:=ih (SK++[f]) (.fz<|.str f.1.nm) (.fz<|eP f.1.ps) (.fz<|cz f.2) (by rw[ah];exact nd) (by refine Er aj<|Er cu ?_;omega);have nk:=KV λg hg e=>by rw[aY,gS]at nd;exact nd.2.2 g.1.nm (aH.mpr ⟨g,hg,rfl⟩) f.1.nm aa e
  have G:AW (.dict<|fdOf SK) (.str f.1.nm) (.tuple [eP f.1.ps,cz f.2])=some (.dict<|fdOf<|SK++[f]):=by
   show(if (fdOf SK).length<Sz then some (PyData.dict<|f8 (fdOf SK) f.1.nm _) else none)=_
   refine Er (if_pos (by unfold fdOf;rw[ai];show SK.length<16777216;omega)) ?_;unfold f8;refine Er (l5 nk) ?_;unfold fdOf;refine Er aY ?_;rfl
  rw[ah]at q;exact Er ay<|gI [.d 0<|G,.lp 0<|q]
theorem GN(N:Nat){d:Nat}(SD:Pg G fs d)(sd:Sj) :cF P (N+1) 44 [.no,.no,.no,.no,.no,.no,.no,.no,.fz<|fM fs,.fz<|.dict sd]=some (.ok<|.fz .none,jT (fdOf fs) sd []):=by have h5:=SD.h5;have lp:=zh N (.fz<|fM fs) (.fz<|.dict sd) fs [] .no .no .no (by rw[cK];have:=SD.nd;rw[<- SD.hd,gx]at this;exact this) (by rw[<- SD.hd,ai]at h5;show 0+fs.length<=100000;exact(Ln [fs.length] (.w (.a (.c 0) .x)<|.c 100000) [Gl .x<|.c 5] rfl h5));rw[cK]at lp;exact bB [.lp 2<|lp]
def fF(fs:List ij)(c:C) :Nat->C->List R->Sb
 | k,x::S,r::rs=>mu fs k x r c::fF fs c (k+1) S rs
 | _,_,_=>[]
section
variable {fs:List ij}{c:C}
theorem jo(k:Nat)(S:C) :fF fs c k S []=[]:=by cases S <;> rfl
theorem CM{x:cY} :∀{V:List R}{k:Nat}{S:C},S[V.length]? = some x->fF fs c k S (V++[r])=fF fs c k S V++[mu fs (k+V.length) x r c]:=by intro V;induction V with
 | nil=>intro k S h;cases S with
  | nil=>exact bz h
  | cons y S=>obtain rfl:=bO h;show _::fF fs c (k+1) S []=_;rw[jo,jo];rfl
 | cons d V ih=>intro k S h;cases S with
  | nil=>cases h
  | cons y S=>
   show _::fF fs c (k+1) S (V++[r])=_::(fF fs c (k+1) S V++_)
   refine Er (ih (S:=S) h)<|Er (show k+1+V.length=k+(V.length+1) from d7 k V.length) ?_;rfl
theorem G9{e:C} :∀{V:List R}{k:Nat}{S:C},V.length<=S.length->fF fs c k (S++e) V=fF fs c k S V:=by intro V;induction V with
 | nil=>intro k S _;rw[jo,jo]
 | cons d V ih=>intro k S h;cases S with
  | nil=>exact(fH _ h).elim
  | cons y S=>exact congrArg (_ :: ·)<|ih (S:=S)<|cG h
theorem G7(p:c <+:c') :∀{V:List R}{k:Nat}{S:C},(∀r∈V, ∃ns,Rk A ns c n r)->fF fs c' k S V=fF fs c k S V:=by intro V;induction V with
 | nil=>intro k S _;rw[jo,jo]
 | cons d V ih=>intro k S h;cases S with
  | nil=>rfl
  | cons y S=>
   show mu fs k y d c'::_=mu fs k y d c::_
   refine Er (ih (S:=S) λr hr=>h r<|ac _ hr) ?_;show PyData.tuple [_,_,encM c' d]::_=PyData.tuple [_,_,encM c d]::_
   exact aR (h d aa) λns q=>Er (ms p q) rfl
theorem G8:∀{V:List R}{k:Nat}{S:C},V.length<=S.length->(fF fs c k S V).length=V.length:=by intro V;induction V with
 | nil=>intro k S _;rw[jo];rfl
 | cons d V ih=>intro k S h;cases S with
  | nil=>exact(fH _ h).elim
  | cons y S=>exact congrArg (· + 1)<|ih<|cG h
end
structure qy(G:List Hd)(fs:List ij)(V:List R)(c:C) :Prop where
 ck:CK G c
 le:V.length<=c.length
 at':∀(i:Nat)(r:R),V[i]? = some r-> ∃x c0,c[i]? = some x/\r=(Bd G fs x c0).1/\(Bd G fs x c0).2 <+:c
theorem qy.rk{G:List Hd}{fs:List ij}{d:Nat}(SD:Pg G fs d){V:List R}{c:C}(o:qy G fs V c){i:Nat}{r:R}(h:V[i]? = some r) :∃x,c[i]? = some x/\Rk (nO G) (qI fs x) c d r:=
 kL (o.at' i r h) λx c0 q=>⟨x,q.1,q.2.1▸(SD.gr (o.ck.us x<|aN q.1) c0).rk.mono q.2.2 (aQ _)⟩
theorem qy.step{d:Nat}(SD:Pg G fs d){c:C}(o:qy G fs V c){x:cY}(hx:c[V.length]? = some x) :qy G fs (V++[(Bd G fs x c).1]) (Bd G fs x c).2:=by
 have g:=SD.gr (o.ck.us x<|aN hx) c;have up:∀{i:Nat}{z:cY},c[i]? = some z->(Bd G fs x c).2[i]? = some z:=λ{i z} q=>by obtain⟨e,he⟩:=g.gw.pre;rw[<- he,b9 (av.mp q).1];exact q
 refine⟨g.gw.ck SD o.ck,Er aj<|af (av.mp hx).1 g.gw.pre.length_le,λi r h=>?_⟩;by_cases q:i<V.length
 .rw[b9 q]at h;exact kL (o.at' i r h) λz c0 w=>⟨z,c0,up w.1,w.2.1,w.2.2.trans g.gw.pre⟩
 .have hi:=(av.mp h).1;rw[aj]at hi;obtain rfl:i=V.length:=dM (rB hi)<|bM.mp q;rw[cQ<|aQ _,Nat.sub_self]at h;exact⟨x,c,up hx,(bO h).symm,iv _⟩
theorem QJ(B:cY->Sf)(n:Nat)(V:List R)(c:C) :go B (n+1) V c=match c[V.length]? with
  | none=>some (V,c)
  | some x=>go B n (V++[(B x c).1]) (B x c).2:=rfl
abbrev RJ:Ex:=.cmp .lt LS<|.bi .len [(.pl<|.var 9)]
theorem tK{G:List Hd}{fs:List ij}{d:Nat}(SD:Pg G fs d)(m:Nat)(a0 a1 a2:Slot) :∀n V c ds' c',go (Bd G fs) n V c=some (ds',c')->qy G fs V c->
  qy G fs ds' c'/\ds'.length=c'.length/\c <+:c'/\pY (ds<|m+2*d+62) ([a0,a1,a2,.own<|.list<|fF fs c 0 c V,.no,.no,.no]++jT (fdOf fs) (dq G) c) RJ Nb [] n=some (.ok .next,[a0,a1,a2,.own<|.list<|fF fs c' 0 c' ds',.no,.no,.no]++jT (fdOf fs) (dq G) c'):=by
 intro n;induction n with
 | zero=>intro V c ds' c' h;exact bz h
 | succ n ih=>
  intro V c ds' c' h o;rw[QJ]at h;have l1:=G8 (fs:=fs) (c:=c) (k:=0) o.le;have b1:pI .len [.list<|fF fs c 0 c V]=some (.fz<|.int V.length):=by rw[DY];show some (Rv.fz<|.int ((fF fs c 0 c V).length:Nat))=_;rw[l1]
  have b2:pI .len [.list<|c.map df]=some (.fz<|.int c.length):=by rw[DY];show some (Rv.fz<|.int ((c.map df).length:Nat))=_;rw[ai]
  cases q:c[V.length]? with
  | none=>
   rw[q]at h;have h:some (V,c)=some (ds',c'):=h;cases h;have hle:=cW.mp q;have lt:bZ .lt (.int V.length) (.int c.length)=some false:=by rw[DT,aA];exact λh=>bM.mpr hle<|kq.mp h
   refine⟨o,dM o.le hle,iv _,?_⟩;generalize ((V.length:Nat) :Int)=i at b1 lt;generalize ((c.length:Nat) :Int)=j at b2 lt;exact Na [.v 0<|b1,.v 0<|b2,.b 0<|lt]
  | some x=>
   rw[q]at h;have hl:=(av.mp q).1;have lt:bZ .lt (.int V.length) (.int c.length)=some true:=by rw[DT,ak<|kq.mpr hl]
   have g:=SD.gr (o.ck.us x<|aN q) c;have Q:=ih _ _ _ _ h<|o.step SD q;have o':=Q.1;have e1:=Q.2.1;have p1:=Q.2.2.1;have w:=Q.2.2.2;refine⟨o',e1,g.gw.pre.trans p1,?_⟩;have f:=OJ SD m V.length o.ck q;have ef:fF fs (Bd G fs x c).2 0 (Bd G fs x c).2 (V++[(Bd G fs x c).1])=fF fs c 0 c V++[mu fs V.length x (Bd G fs x c).1 (Bd G fs x c).2]:=by
    obtain⟨e,he⟩:=g.gw.pre;have hx':(Bd G fs x c).2[V.length]? = some x:=by rw[<- he,b9 hl];exact q
    rw[CM hx',aX,G7 (c:=c) g.gw.pre λr hr=>aR (List.getElem?_of_mem hr) λi hi=>aR (o.rk SD hi) λx q=>⟨_,q.2⟩];congr 1
    conv=>lhs;rw[<- he]
    exact G9 o.le
   rw[ef]at w;have hz:decide ((fF fs c 0 c V).length<Sz)=true:=ak (by rw[l1];have:=o.ck.le;show V.length<16777216;omega);generalize mu fs V.length x (Bd G fs x c).1 (Bd G fs x c).2=E at f w;generalize (Bd G fs x c).2=c1 at f w;generalize m+2*d=N at *;generalize ((V.length:Nat) :Int)=i at b1 lt f;generalize ((c.length:Nat) :Int)=j at b2 lt;exact Na [.v 0<|b1,.v 0<|b2,.b 0<|lt,.v 1<|b1,.c 0<|f,.t 0<|hz,.lp 0<|w]
mutual
noncomputable def lG:T->List T
 | .val _=>[]
 | .nam _=>[]
 | .ref _=>[]
 | .iff ps=>cins ps
 | .doo _ ps=>cins ps
 | .call f ps=>cins ps++[.call f ps]
noncomputable def cins:List T->List T
 | []=>[]
 | t::ts=>lG t++cins ts
end
noncomputable def PD(m:Nat)(t:T) :Prop:=n7 (λr=>cF P m 9 [.fz<|cz t]=some (.ok r,[])) (λr=>r = .fz (.list<|encs<|lG t)\/r = .own (.list<|encs<|lG t))
theorem Ii(m:Nat)(a0 a1:Slot) :∀ts L0 s3,(∀u∈ts,PD m u)->L0.length+(cins ts).length<=Sz->dJ (ds m) [a0,a1,.own<|.list<|encs L0,s3] (.one 3) QW [3] (encs ts)=some (.ok .next,[a0,a1,.own<|.list<|encs<|L0++cins ts,.no]):=by intro ts;induction ts with
 | nil=>intro L0 s3 _ _;refine Er (show cins []=[] from rfl) ?_;rw[aI];exact b4 ..
 | cons u ts ih=>
  intro L0 s3 hF hl;obtain⟨r,hu,hr⟩:=hF u aa;have hl:L0.length+(lG u++cins ts).length<=Sz:=hl;have hl:=aj▸hl;have ad:op2 .add (.list<|encs L0) (.list<|encs<|lG u)=some (.own<|.list<|encs L0++encs (lG u)):=by rw[vQ,if_pos];rw[eM,eM];omega
  have q:=ih (L0++lG u) (.fz<|cz u) (λv hv=>hF v<|ac _ hv) (by refine Er aj ?_;omega);rw[j5,ah,show lG u++cins ts=cins (u::ts) from rfl]at q;refine Er (show encs (u::ts)=cz u::encs ts from rfl) ?_;rcases hr with rfl | rfl
  .exact gI [.c 0<|hu,.v 0<|ad,.lp 0<|q]
  .exact gI [.c 0<|hu,.v 0<|ad,.lp 0<|q]
theorem DM{u:T} :∀{ts:List T},u∈ts->(lG u).length<=(cins ts).length:=by intro ts;induction ts with
 | nil=>intro h;cases h
 | cons t ts ih=>
  intro h;show _<=(lG t++cins ts).length
  refine Er aj ?_;rcases am.mp h with rfl | h
  .exact aq _ _
  .exact af (ih h) (eJ _ _)
section
variable {G:List Hd}{kn ns:Sd}
theorem u6(n:Nat) :∀r t,Ok G kn ns r t->(lG t).length<=Sz->PD (n+r) t:=by intro r;induction r with
 | zero=>exact λj0_ h=>h.elim
 | succ r ih=>
  intro t ht hs';generalize hN:n+r=N at *;have go:∀ts:List T,(∀t∈ts,Ok G kn ns r t)->(cins ts).length<=Sz-> ∀a0 a1:Slot,dJ (ds N) [a0,a1,.own<|.list [],.no] (.one 3) QW [3] (encs ts)=some (.ok .next,[a0,a1,.own<|.list<|encs<|cins ts,.no]):=λts h1 h2 a0 a1=>
   Ii N a0 a1 ts [] .no (λu hu=>ih u (h1 u hu)<|af (DM hu) h2) (by show 0+(cins ts).length<=Sz;rw[aX];exact h2)
  cases t with
  | val d=>exact⟨.own<|.list [],(bB []),.inr rfl⟩
  | nam x=>exact⟨.own<|.list [],(bB []),.inr rfl⟩
  | ref x=>exact⟨.own<|.list [],(bB []),.inr rfl⟩
  | iff ps=>refine⟨.fz<|.list<|encs<|cins ps,?_,.inl rfl⟩;exact bB [.v 6<|(oP (.str iY)<|encs ps),.lp 1<|(go ps ht.2 hs' (.fz<|cz<|.iff ps)<|.fz<|.tuple<|encs ps)]
  | doo f ps=>refine⟨.fz<|.list<|encs<|cins ps,?_,.inl rfl⟩;exact bB [.lp 8<|(go ps ht.2 hs' (.fz<|cz<|.doo f ps)<|.fz<|.tuple<|encs ps)]
  | call f ps=>
   have hs':(cins ps++[T.call f ps]).length<=Sz:=hs';rw[aj]at hs';have hs':=cu▸hs';have lp:=go ps ht.2 (kj hs') (.fz<|cz<|.call f ps)<|.fz<|.tuple<|encs ps;have hz:decide ((encs<|cins ps).length<Sz)=true:=ak (by rw[eM];exact hs');refine⟨.fz<|.list<|encs (cins ps)++[cz<|.call f ps],?_,.inl ?_⟩
   .rw[show cz (.call f ps) = .tuple [.str dQ,.str f,.tuple<|encs ps] from rfl]at lp |-;generalize encs ps=E at lp |-;exact bB [.lp 8<|lp,.t 3<|hz]
   .refine Er (show lG (.call f ps)=cins ps++[.call f ps] from rfl) ?_;rw[j5];rfl
theorem GO(x:Str)(l:Sd) :Lm (.str x) (.list<|l.map .str)=some (gj x l):=oo x l
theorem yE(n:Nat) :∀r t,Ok G kn ns r t->Tm kn t->cF P (n+r) 10 [.fz<|cz t,sN kn]=IW true:=by intro r;induction r with
 | zero=>exact λj0_ h=>h.elim
 | succ r ih=>intro t ht tm;generalize hN:n+r=N at *;cases tm with
  | val h=>exact bB []
  | ref=>exact bB []
  | @nam x h=>exact bB [.b 4<|((GO x kn).trans<|congrArg some<|eZ.mpr h)]
  | @doo op t ho tm=>exact bB [.b 7<|((oo op [cO,en,ew]).trans<|congrArg some<|eZ.mpr ho),.c 3<|(ih t (ht.2 t aa) tm)]
end
theorem Ok.mono:∀{r s:Nat}{t:T},Ok G kn ns r t->r<=s->Ok G kn ns s t:=by intro r;induction r with
 | zero=>exact λh j0_=>h.elim
 | succ r ih=>intro s t h G;cases s with
  | zero=>exact(fH _ G).elim
  | succ s=>cases t with
   | val d=>exact h
   | nam x=>exact h
   | ref x=>exact h
   | iff ps=>exact⟨h.1,λt m=>ih (h.2 t m)<|cG G⟩
   | doo op ps=>exact⟨h.1,λt m=>ih (h.2 t m)<|cG G⟩
   | call f ps=>exact⟨h.1,λt m=>ih (h.2 t m)<|cG G⟩
inductive xi(G:List Hd)(kn ns:Sd)(r:Nat) :T->Prop
 | mk {h:Hd} {ps:List T} :h∈G->(∀p∈ps.zip h.wn,p.2=true->Tm kn p.1)->(∀t∈ps,Ok G kn ns r t)->xi G kn ns r (.call h.nm ps)
theorem pE{Q:T->Prop} :∀{ts:List T},(∀t∈ts, ∀u∈lG t,Q u)-> ∀u∈cins ts,Q u:=by intro ts;induction ts with
 | nil=>intro _ u h;cases h
 | cons t ts ih=>
  intro H u h;rcases cS.mp (show u∈lG t++cins ts from h) with h | h
  .exact H t aa u h
  .exact ih (λt m=>H t<|ac _ m) u h
theorem Mf:∀{r:Nat}{t:T},Ok G kn ns r t->r<=s-> ∀u∈lG t,xi G kn ns s u:=by intro r;induction r with
 | zero=>exact λh j0_=>h.elim
 | succ r ih=>intro t h hr u m;have hr:=kj hr;cases t with
  | val d=>cases m
  | nam x=>cases m
  | ref x=>cases m
  | iff ps=>exact pE (λt mt=>ih (h.2 t mt) hr) u m
  | doo op ps=>exact pE (λt mt=>ih (h.2 t mt) hr) u m
  | call f ps=>
   rcases cS.mp (show u∈cins ps++[T.call f ps] from m) with m | m
   .exact pE (λt mt=>ih (h.2 t mt) hr) u m
   .refine Er (aJ.mp m) ?_;obtain⟨⟨g,hg,rfl,_,htm⟩,hp⟩:=h;exact .mk hg htm λt mt=>(hp t mt).mono hr
noncomputable abbrev PK(kn:Sd)(s:Slot) :Prop:=s = .own (.list<|kn.map .str)\/s=sN kn
theorem Jx(N:Nat)(kn:Sd)(a0 a1 a2 a3 a4 a6 a9 a10:Slot) :∀(ps:List (T×Bool))(s5 s7 s8:Slot),PK kn s5->(∀p∈ps,p.2=true->cF P N 10 [.fz<|cz p.1,sN kn]=IW true)->
  ∃s5',dJ (ds N) [a0,a1,a2,a3,a4,s5,a6,s7,s8,a9,a10] (.tup [7,8]) Rg [7,8] (ps.map LP)=some (.ok .next,[a0,a1,a2,a3,a4,s5',a6,.no,.no,a9,a10])/\PK kn s5':=by
 intro ps;induction ps with
 | nil=>intro s5 s7 s8 k _;exact⟨s5,by refine Er aZ ?_;exact b4 ..,k⟩
 | cons p ps ih=>intro s5 s7 s8 k H;obtain⟨t,b⟩:=p;have H':∀p∈ps,p.2=true->cF P N 10 [.fz<|cz p.1,sN kn]=IW true:=λp hp=>H p<|ac _ hp;refine Er ay ?_;cases b with
  | true=>
   have h:=H _ aa rfl;obtain⟨s5',Q⟩:=ih (sN kn) (.fz<|cz t) (.fz<|.bool true) (.inr rfl) H';refine⟨s5',?_,Q.2⟩;rcases k with rfl | rfl
   .exact gI [.c 1<|h,.lp 2<|Q.1]
   .exact gI [.c 1<|h,.lp 2<|Q.1]
  | false=>obtain⟨s5',z⟩:=ih s5 (.fz<|cz t) (.fz<|.bool false) k H';refine⟨s5',?_,z.2⟩;exact gI [.lp 2<|z.1]
theorem Mi{d:Nat}(SD:Pg G fs d)(N r:Nat)(kn:Sd)(a0 a2 a3 a4 a9 a10:Slot) :∀(us:List T)(s5 s6 s7 s8:Slot),PK kn s5->(∀u∈us,xi G kn ns r u)->
  ∃s5',dJ (ds<|N+r) [a0,.fz<|.dict<|dq G,a2,a3,a4,s5,s6,s7,s8,a9,a10] (.one 6) RF [6,7,8] (encs us)=some (.ok .next,[a0,.fz<|.dict<|dq G,a2,a3,a4,s5',.no,.no,.no,a9,a10])/\PK kn s5':=by
 intro us;induction us with
 | nil=>intro s5 s6 s7 s8 k _;exact⟨s5,b4 ..,k⟩
 | cons u us ih=>intro s5 s6 s7 s8 k H;cases(H u aa) with
  | @mk h ps hm htm hok=>obtain⟨s5',z⟩:=Jx (N+r) kn a0 (.fz<|.dict<|dq G) a2 a3 a4 (.fz<|cz<|.call h.nm ps) a9 a10 (ps.zip h.wn) s5 .no .no k λp hp e=>yE N r p.1 (hok p.1 (jb (a:=p.1) (b:=p.2) hp).1)<|htm p hp e;obtain⟨s5'',Q⟩:=ih s5' (.fz<|cz<|.call h.nm ps) .no .no z.2 λv hv=>H v<|ac _ hv;refine⟨s5'',?_,Q.2⟩;exact Er (show encs (T.call h.nm ps::us)=cz (.call h.nm ps)::encs us from rfl)<|gI [.d 2<|(mT SD.nd hm),.l 0<|(congrArg some<|oF ps h.wn),.lp 0<|z.1,.lp 0<|Q.1]
theorem ux(N:Nat)(a0 a1 a2 a3 a4 a5 a6 a7 a8:Slot) :∀(ps:Sd)(bs:Sp)(s9 s10:Slot),
  dC (ds N) [a0,a1,a2,a3,a4,a5,a6,a7,a8,s9,s10] gi (.tup [9,10]) [dl] ((ps.zip bs).map Do)=some (.ok<|(eL ps bs).map .str,[a0,a1,a2,a3,a4,a5,a6,a7,a8,.no,.no]):=by
 intro ps;induction ps with
 | nil=>intro bs s13 s14;cases bs <;> (refine Er List.zip_nil_left ?_;rw[aZ,cI];rfl)
 | cons x ps ih=>intro bs s13 s14;cases bs with
  | nil=>refine Er pS ?_;rw[aZ,cI];rfl
  | cons b bs=>have q:=ih bs (.fz<|.str x)<|.fz<|.bool b;refine Er pU<|Er ay ?_;cases b with
   | true=>show _=some (Except.ok<|(x::eL ps bs).map _,_);exact Er ay<|p9 [.cp 1<|q]
   | false=>show _=some (Except.ok<|(eL ps bs).map _,_);exact p9 [.cp 1<|q]
theorem Lb{d:Nat}(SD:Pg G fs d)(N:Nat)(a0:Slot) :∀(gs:List ij)(s2 s3 s4 s5 s6 s7 s8:Slot),(∀f∈gs,f∈fs)->(∀f∈gs,(lG f.2).length<=Sz)->
  dJ (ds<|N+d) [a0,.fz<|.dict<|dq G,s2,s3,s4,s5,s6,s7,s8,.no,.no] (.tup [2,3,4]) Rw [2,3,4,5,6,7,8] (gs.map nY)=some (.ok .next,[a0,.fz<|.dict<|dq G,.no,.no,.no,.no,.no,.no,.no,.no,.no]):=by
 intro gs;induction gs with
 | nil=>intro s2 s3 s4 s5 s6 s7 s8 _ _;exact Er aZ<|b4 ..
 | cons f gs ih=>
  intro s2 s3 s4 s5 s6 s7 s8 H1 H2;have hf:=H1 f aa;have hm:f.1∈G:=by exact Er SD.hd.symm<|aH.mpr ⟨f,hf,rfl⟩
  obtain⟨r,ci,hr⟩:=u6 N d f.2 (SD.ok f hf)<|H2 f aa;obtain⟨s5',Q⟩:=Mi SD N d (eL f.1.ps f.1.wn) a0 (.fz<|.str f.1.nm) (.fz<|eP f.1.ps) (.fz<|cz f.2) .no .no (lG f.2) (.own<|.list<|(eL f.1.ps f.1.wn).map .str) .no .no .no (.inl rfl)<|Mf (SD.ok f hf)<|aQ _;refine Er ay ?_;generalize N+d=M at *;rcases hr with rfl | rfl
  .exact gI [.d 0<|(mT SD.nd hm),.l 0<|(congrArg some<|oG f.1.ps f.1.wn),.cp 0<|(ux (N+d) a0 (.fz<|.dict<|dq G) (.fz<|.str f.1.nm) (.fz<|eP f.1.ps) (.fz<|cz f.2) .no .no .no .no f.1.ps f.1.wn .no .no),.c 0<|ci,.lp 1<|Q.1,.lp 0<|(ih (.fz<|.str f.1.nm) (.fz<|eP f.1.ps) (.fz<|cz f.2) s5' .no .no .no (λg hg=>H1 g<|ac _ hg) λg hg=>H2 g<|ac _ hg)]
  .exact gI [.d 0<|(mT SD.nd hm),.l 0<|(congrArg some<|oG f.1.ps f.1.wn),.cp 0<|(ux (N+d) a0 (.fz<|.dict<|dq G) (.fz<|.str f.1.nm) (.fz<|eP f.1.ps) (.fz<|cz f.2) .no .no .no .no f.1.ps f.1.wn .no .no),.c 0<|ci,.lp 1<|Q.1,.lp 0<|(ih (.fz<|.str f.1.nm) (.fz<|eP f.1.ps) (.fz<|cz f.2) s5' .no .no .no (λg hg=>H1 g<|ac _ hg) λg hg=>H2 g<|ac _ hg)]
theorem Cg{d:Nat}(SD:Pg G fs d)(hc:∀f∈fs,(lG f.2).length<=Sz)(N:Nat) :cF P (N+d+1) 11 [.fz<|fM fs,.fz<|.dict<|dq G]=IW true:=by generalize N+d=M at *;exact bB [.lp 1<|(Lb SD N (.fz<|fM fs) fs .no .no .no .no .no .no .no (λj0_ h=>h) hc)]
def JJ:Nat->C->Sb
 | _,[]=>[]
 | k,x::c=>.tuple [.str<|k7 k,.str x.1,.tuple x.2]::JJ (k+1) c
theorem EP(N:Nat)(a0 a1 a2 a3 a7 a8 a9 a10 a11 a12 a13 a14:Slot) :∀c k SK s5 s6,SK.length=k->k+c.length<=2315->
  dJ (ds N) [a0,a1,a2,a3,.own<|.list SK,s5,s6,a7,a8,a9,a10,a11,a12,a13,a14] (.tup [5,6]) Nj [5,6] (mr k<|c.map df)=some (.ok .next,[a0,a1,a2,a3,.own<|.list<|SK++JJ k c,.no,.no,a7,a8,a9,a10,a11,a12,a13,a14]):=by
 intro c;induction c with
 | nil=>intro k SK s5 s6 _ _;refine Er (show JJ k []=[] from rfl) ?_;rw[aI];exact b4 ..
 | cons x c ih=>intro k SK s5 s6 ha hl;have hl:=aD▸hl;have Q:=EY (k:=k)<|af (aq _ _) hl;have h1:=Q.1;have h2:=Q.2;have q:=ih (k+1) (SK++[.tuple [.str<|k7 k,.str x.1,.tuple x.2]]) (.fz<|.int k) (.fz<|df x) (by refine Er aj<|Er ha ?_;rfl) (by omega);rw[ah]at q;have hz:decide (SK.length<Sz)=true:=ak (by refine Er ha ?_;show k<16777216;omega);refine Er ay<|Er (show mr k (df x::c.map df) = .tuple [.int k,df x]::mr (k+1) (c.map df) from rfl)<|Er (show JJ k (x::c) = .tuple [.str<|k7 k,.str x.1,.tuple x.2]::JJ (k+1) c from rfl) ?_;generalize ((k:Nat) :Int)=i at h1 q |-;exact gI [.v 0<|h1,.v 0<|h2,.t 2<|hz,.lp 0<|q]
structure Wk(G:List Hd)(fs:List ij)(d:Nat)(x:cY)(V:List R)(c:C) :Prop where
 go:go (Bd G fs) 2316 [] [x]=some (V,c)
 ok:qy G fs V c
 len:V.length=c.length
 pre: [x] <+:c
theorem wZ{x:cY}(u:Us G x) :CK G [x]:=⟨List.pairwise_singleton _ _,λy hy=>by refine Er (aJ.mp hy) ?_;exact u,by show 1<=2315;decide⟩
theorem yx{d:Nat}(SD:Pg G fs d)(hc:∀f∈fs,(lG f.2).length<=Sz)(e0:fs=f0::fs'){ks:Sb}(u:Us G (f0.1.nm,ks)) :
  ∃V c,Wk G fs d (f0.1.nm,ks) V c/\ ∀m,cF P (m+2*d+63) 13 [.fz<|fM fs,.fz<|.dict<|dq G,.fz<|.tuple ks]=some (.ok<|.fz<|.tuple [.tuple<|fF fs c 0 c V,.list<|JJ 0 c],[]):=by
 subst e0;refine kL (SD.ends (n:=2316) (by decide) (c:=[(f0.1.nm,ks)]) (wZ u).nd (wZ u).us) λV c hg=>?_;have o0:qy G (f0::fs') [] [(f0.1.nm,ks)]:=⟨wZ u,ba _,λj0_ j1_ h=>bz h⟩
 have w0:=tK SD 0 .no .no .no 2316 [] [(f0.1.nm,ks)] V c hg o0;refine⟨V,c,⟨hg,w0.1,w0.2.1,w0.2.2.1⟩,λm=>?_⟩;have w:=(tK SD m (.fz<|fM (f0::fs')) (.fz<|.dict<|dq G) (.fz<|.tuple ks) 2316 [] [(f0.1.nm,ks)] V c hg o0).2.2.2;have kp:=Cg SD hc<|m+d+61;have fe:m+d+61+d+1=m+2*d+62:=by omega
 rw[fe]at kp;have ne:=xR (m+2*d+61) (G:=G) (fdOf (f0::fs')) (dq G) (c:=[]) (x:=(f0.1.nm,ks)) ⟨List.nodup_nil,(λj0_ h=>by cases h),by decide⟩ u;rw[yq<|bc,cK]at ne;have tl:=EP (m+2*d+62) (.fz<|fM (f0::fs')) (.fz<|.dict<|dq G) (.fz<|.tuple ks) (.own<|.list<|fF (f0::fs') c 0 c V) (.own<|.dict<|fdOf (f0::fs')) (.fz<|.dict<|dq G) (.fz<|.list<|c.map df) (.tab<|g6 0 c) .no .no .no .no c 0 [] .no .no rfl (by rw[aX];exact w0.1.ck.le);rw[cK]at tl;rw[(rfl:fF (f0::fs') [(f0.1.nm,ks)] 0 [(f0.1.nm,ks)] []=[])]at w;generalize fF (f0::fs') c 0 c V=E at *;generalize fdOf (f0::fs')=fd at *;generalize dq G=sd at *;generalize JJ 0 c=T0 at *;generalize k7 (eU [(f0.1.nm,ks)] (f0.1.nm,ks))=W0 at *;generalize m+2*d=M at *;exact bB [.c 0<|kp,.c 2<|(GN (m+2*d+61) SD<|dq G),.c 3<|ne,.lp 0<|vq _ _ w,.lp 1<|tl]
theorem N1(N:Nat)(p s k A B:D)(h:cF P (N+1) 13 [.fz p,.fz s,.fz k]=some (.ok<|.fz<|.tuple [A,B],[])) :cF P (N+2) 14 [.fz p,.fz s,.fz k]=gK A:=by exact bB [.c 0<|h]
theorem Mg(hw:∀h∈G,h.wn.length<=6) :∀{r:Nat}{t:T},Ok G kn ns r t->7*(lG t).length+1<=8 ^ r:=by intro r;induction r with
 | zero=>exact λh=>h.elim
 | succ r ih=>
  intro t h;have p:1<=8 ^ r:=Nat.pow_pos (by decide);have l:∀{ts:List T},(∀t∈ts,Ok G kn ns r t)->7*(cins ts).length+ts.length<=ts.length*8 ^ r:=λ{ts} h=>by induction ts with
   | nil=>show 7*0+0<=0*_;rw[Nat.zero_mul];exact aQ _
   | cons t ts IH=>
    show 7*(lG t++cins ts).length+(ts.length+1)<=(ts.length+1)*8 ^ r
    refine Er aj<|Er (show(ts.length+1)*8 ^ r=ts.length*8 ^ r+8 ^ r from Nat.succ_mul _ _) ?_;generalize ts.length*8 ^ r=X at *;generalize 8 ^ r=Z at *;exact(Ln [(lG t).length,(cins ts).length,ts.length,X,Z] (.w (.a (.m 7<|.a .x .y)<|.p 1 .z)<|.a .u<|.v 4) [Gl (.a (.m 7 .y) .z) .u,Gl (.p 1<|.m 7 .x)<|.v 4] rfl (IH λu hu=>h u<|ac _ hu)<|ih<|h t aa)
  have e:8 ^ (r+1)=8*8 ^ r:=by rw[Nat.pow_succ,kh]
  have m:∀{ts:List T},ts.length<=8->(∀t∈ts,Ok G kn ns r t)->7*(cins ts).length+8<=8 ^ (r+1):=λ{ts} hl h=>by
   have a:=l h;refine Er e ?_;obtain⟨j,hj⟩ :∃j,8=ts.length+j:=⟨8 - ts.length,(cw hl).symm⟩
   have b:8*8 ^ r=ts.length*8 ^ r+j*8 ^ r:=by rw[<- Nat.add_mul];exact Er hj.symm rfl
   have c:=Nat.le_mul_of_pos_right j p;generalize ts.length*8 ^ r=X at *;generalize j*8 ^ r=No at *;generalize 8 ^ r=Z at *;omega
  cases t with
  | val d=>show 7*0+1<=_;rw[e];generalize 8 ^ r=Z at *;exact(Ln [Z] (.w (.p 1<|.m 7<|.c 0)<|.m 8 .x) [(8,.w (.c 1) .x)] rfl p)
  | nam d=>show 7*0+1<=_;rw[e];generalize 8 ^ r=Z at *;exact(Ln [Z] (.w (.p 1<|.m 7<|.c 0)<|.m 8 .x) [(8,.w (.c 1) .x)] rfl p)
  | ref d=>show 7*0+1<=_;rw[e];generalize 8 ^ r=Z at *;exact(Ln [Z] (.w (.p 1<|.m 7<|.c 0)<|.m 8 .x) [(8,.w (.c 1) .x)] rfl p)
  | iff ps=>have:=m (by refine Er h.1 ?_;decide) h.2;show 7*(cins ps).length+1<=_;generalize 8 ^ (r+1)=Z at *;omega
  | doo op ps=>have:=m (jK h.1.2) h.2;show 7*(cins ps).length+1<=_;generalize 8 ^ (r+1)=Z at *;omega
  | call f ps=>
   obtain⟨⟨g,hg,_,hl,_⟩,hp⟩:=h;have:=m (by refine Er hl ?_;have:=hw g hg;exact(Ln [g.wn.length] (.w .x<|.c 8) [Gl .x<|.c 6] rfl this)) hp;show 7*(cins ps++[T.call f ps]).length+1<=_
   refine Er aj<|Er cu ?_;generalize 8 ^ (r+1)=Z at *;omega
structure vi(G:List Hd)(fs:List ij) :Prop where
 pg:Pg G fs 8
 cn:∀f∈fs,(lG f.2).length<=Sz
 ne:G≠ []
 l4:G.length<=4
 tp:hS∉G.map (·.nm)
theorem Jm(SD:Pg G fs 8) :∀f∈fs,(lG f.2).length<=Sz:=λf hf=>by have:=Mg (λh hm=>by refine Er (SD.wn h hm) ?_;exact SD.le h hm)<|SD.ok f hf;have:7*(lG f.2).length+1<=16777216:=this;exact(sB [(lG f.snd).length] [] 7 (.w .x<|.c 16777216) [Gl (.p 1<|.m 7 .x)<|.c 16777216] rfl ‹(7:Nat)*(lG f.snd).length+(1:Nat)<=(8:Nat) ^ (8:Nat)›)
theorem H8(l:Sp) :(l.filter id).length=l.count true:=by induction l with
 | nil=>rfl
 | cons b l ih=>cases b with
  | true=>refine Er List.count_cons<|Er ih.symm ?_;rfl
  | false=>rw[List.count_cons,<- ih];rfl
theorem OX{l:Sd}(hh:jA l G)(hp:Pv G fs) :vi G fs:=by
 have SD:Pg G fs 8:=⟨hp.hd,λf hf=>(hp.ok f hf).ok 8<|aQ _,hh.nd,λh hm=>(hh.ok h hm).wn,λh hm=>(hh.ok h hm).le,λh hm=>(hh.ok h hm).nd,λh hm=>by rw[H8];exact(hh.ok h hm).kt,Nat.le_succ_of_le hh.le⟩
 exact⟨SD,Jm SD,hh.hok.ne,hh.le,λm=>hh.nm.zz<|hh.mem _ m⟩
def PH(kn:Sd) :Nat->T->Bool
 | 0,_=>false
 | r+1,t=>match t with
  | .val d=>EG d&&Sl.any λu=>PyData.eqv u d
  | .nam x=>gj x kn
  | .ref x=>gj x fy
  | .doo op [t]=>gj op [cO,en,ew]&&PH kn r t
  | _=>false
theorem AI:∀{r:Nat}{t:T},PH kn r t=true->Tm kn t:=by intro r;induction r with
 | zero=>intro t h;cases h
 | succ r ih=>intro t h;cases t with
  | val d=>have h:=ao.mp h;obtain⟨u,q⟩:=ix.mp h.2;exact .val<|sG u (nE q.1).key d (lA h.1).vg.key q.2▸q.1
  | nam x=>exact .nam<|eZ.mp h
  | ref x=>exact .ref<|eZ.mp h
  | doo op ps=>
   rcases ps with _ | ⟨t,_ | _⟩
   .cases h
   .have h:=ao.mp h;exact .doo (eZ.mp h.1)<|ih h.2
   .cases h
  | iff ps=>cases h
  | call f ps=>cases h
def Eo(G:List Hd)(kn ns:Sd) :Nat->T->Bool
 | 0,_=>false
 | r+1,t=>match t with
  | .val d=>EG d
  | .nam x=>gj x ns
  | .ref x=>gj x fy
  | .iff ps=>decide (ps.length=3)&&ps.all (Eo G kn ns r)
  | .doo op ps=>(jY op&&c8 op ps.length)&&ps.all (Eo G kn ns r)
  | .call f ps=>(G.any λh=>(decide (h.nm=f)&&decide (ps.length=h.wn.length))&&(ps.zip h.wn).all λp=>!p.2||PH kn r p.1)&&ps.all (Eo G kn ns r)
theorem vO:∀{r:Nat}{t:T},Eo G kn ns r t=true->Ok G kn ns r t:=by intro r;induction r with
 | zero=>intro t h;cases h
 | succ r ih=>intro t h;have al:∀{ps:List T},ps.all (Eo G kn ns r)=true-> ∀t∈ps,Ok G kn ns r t:=λh t ht=>ih<|aB.mp h t ht;cases t with
  | val d=>exact lA h
  | nam x=>exact eZ.mp h
  | ref x=>exact eZ.mp h
  | iff ps=>have h:=ao.mp h;exact⟨aF h.1,al h.2⟩
  | doo op ps=>have h:=ao.mp h;exact⟨ao.mp h.1,al h.2⟩
  | call f ps=>obtain⟨g,hg,e⟩:=ix.mp (ao.mp h).1;refine⟨⟨g,hg,aF (ao.mp (ao.mp e).1).1,aF (ao.mp (ao.mp e).1).2,λp hp q=>?_⟩,al (ao.mp h).2⟩;have:=aB.mp (ao.mp e).2 p hp;rw[q]at this;exact AI this
noncomputable abbrev s_(l:Sg) :Str:=⟨l.toArray⟩
abbrev KA:T:=.nam<|s_ [120]
abbrev FF:T:=.nam<|s_ [107]
abbrev IU:T:=.nam<|s_ [121]
abbrev FE:T:=.nam<|s_ [110]
noncomputable abbrev KB(i:Int) :T:=.val<|.int i
abbrev wf:Str:=s_ [109,97]
abbrev qk:Str:=s_ [116,119]
def Bs:List T:=[.ref bf,.doo hU [KA,KB 0],.call wf [KA,FF],KA,KB 1,.doo cO [KA],.call qk [KA,KB 1],.doo iK [KB 999999999999999999,FF],.doo gW [KB 999999999999999999,KB 2],.doo jm [FF,KA],
 .doo iL [KA,.val<|.tuple<|List.replicate 48<|.int 0],.doo iL [FF,.val<|.tuple<|List.replicate 49<|.int 0]]
def AC:List T:=[.doo cO [FF],.doo en [FF],.doo ew [FF],.ref bN,FF,.doo cO [.doo en [FF]],KB 3]
def Pa:List T:=[.doo iK [IU,FE],.doo b6 [FE,IU,FE],.doo hU [IU,FE],.call wf [IU,FE]]
def Ep:List Hd:=[⟨wf,[s_ [120],s_ [107]],[false,true]⟩,⟨qk,[s_ [121],s_ [110]],[false,true]⟩]
theorem Fc:Bs.all (Eo Ep [s_ [107]] [s_ [120],s_ [107]] 7)=true:=by kernel_rfl
theorem Fb:AC.all (λt=>Eo Ep [s_ [107]] [s_ [120],s_ [107]] 7 t&&PH [s_ [107]] 7 t)=true:=by kernel_rfl
theorem xx:Pa.all (λt=>Eo Ep [s_ [110]] [s_ [121],s_ [110]] 8 t&&Eo Ep [s_ [110]] [s_ [121],s_ [110]] 8 (.iff [.doo cP [FE],IU,t]))=true:=by kernel_rfl
theorem CA{ts:List T}{c:Int}(h:0<ts.length) :∃t∈ts,jE (.list<|ts.map cz) (.int<|c.fmod ts.length)=some (cz t):=by obtain⟨d,e,m⟩:=eh (S:=ts.map cz) (fm c ts.length<|kq.mpr h).1 (by rw[ai];exact(fm c ts.length<|kq.mpr h).2);obtain⟨t,Q⟩:=aH.mp m;obtain rfl:=Q.2;have ht:=Q.1;exact⟨t,ht,e⟩
def MQ(a b t:T) :List ij:=[(⟨wf,[s_ [120],s_ [107]],[false,true]⟩,.call qk [a,b]),(⟨qk,[s_ [121],s_ [110]],[false,true]⟩,t)]
theorem IQ{a b t:T}(ha:a∈Bs)(hb:b∈AC)(ht:Eo Ep [s_ [110]] [s_ [121],s_ [110]] 8 t=true) :vi Ep (MQ a b t):=by
 have hb:=ao.mp<|aB.mp Fb b hb;have two:∀Q:Hd->Prop,Q ⟨wf,[s_ [120],s_ [107]],[false,true]⟩->Q ⟨qk,[s_ [121],s_ [110]],[false,true]⟩-> ∀h∈Ep,Q h:=λQ h1 h2 h hm=>by
  rcases am.mp hm with rfl | hm
  .exact h1
  .exact Er (aJ.mp hm) h2
 have SD:Pg Ep (MQ a b t) 8:=by
  refine⟨rfl,λf hf=>?_,by decide,two _ rfl rfl,two _ (by decide) (by decide),two _ (by decide) (by decide),two _ (by decide) (by decide),by decide⟩
  .rcases am.mp hf with rfl | hf
   .refine⟨⟨⟨qk,[s_ [121],s_ [110]],[false,true]⟩,.tail _<|.head _,rfl,rfl,λp hp q=>?_⟩,λu hu=>?_⟩
    .rcases am.mp (show p∈ [(a,false),(b,true)] from hp) with rfl | hp
     .cases q
     .exact Er (aJ.mp hp) (AI hb.2)
    .rcases am.mp hu with rfl | hu
     .exact vO (aB.mp Fc _ ha)
     .exact Er (aJ.mp hu) (vO hb.1)
   .exact Er (aJ.mp hf) (vO ht)
 exact⟨SD,Jm SD,by decide,by decide,by decide⟩
theorem vB(n:Nat)(S:Sm) :∃fs,cF P (n+2) 40 [.fz<|.list<|S.map .int]=gK (fM fs)/\vi Ep fs:=by
 refine aR (cell n S 19 (by decide)) λc hc=>?_;obtain⟨a,Z⟩:=CA (ts:=Bs) (c:=c) (by decide);have ha:=Z.1;have e1:=Z.2;obtain⟨b,z⟩:=CA (ts:=AC) (c:=c.fdiv 12) (by decide);have hb:=z.1;have e2:=z.2;obtain⟨t,Q⟩:=CA (ts:=Pa) (c:=c.fdiv 84) (by decide);have ht:=Q.1;have e3:=Q.2;by_cases q:(c.fdiv 336).fmod 2=1
 .have q:bZ .eq (.int<|(c.fdiv 336).fmod 2) (.int 1)=some true:=by rw[j9];exact Er (ak q) rfl
  refine⟨MQ a b<|.iff [.doo cP [FE],IU,t],?_,IQ ha hb (ao.mp<|aB.mp xx t ht).2⟩;exact Er (show fM (MQ a b<|.iff [.doo cP [FE],IU,t]) = .tuple [.tuple [.str wf,.tuple [.str<|s_ [120],.str<|s_ [107]],.tuple [.str dQ,.str qk,.tuple [cz a,cz b]]],.tuple [.str qk,.tuple [.str<|s_ [121],.str<|s_ [110]],.tuple [.str iY,cz<|.doo cP [FE],cz IU,cz t]]] from rfl)<|bB [.c 0<|hc,.d 9<|e1,.d 2<|e2,.d 2<|e3,.b 2<|q]
 .have q:bZ .eq (.int<|(c.fdiv 336).fmod 2) (.int 1)=some false:=by rw[j9];exact Er (aA q) rfl
  refine⟨MQ a b t,?_,IQ ha hb (ao.mp<|aB.mp xx t ht).1⟩;exact Er (show fM (MQ a b t) = .tuple [.tuple [.str wf,.tuple [.str<|s_ [120],.str<|s_ [107]],.tuple [.str dQ,.str qk,.tuple [cz a,cz b]]],.tuple [.str qk,.tuple [.str<|s_ [121],.str<|s_ [110]],cz t]] from rfl)<|bB [.c 0<|hc,.d 9<|e1,.d 2<|e2,.d 2<|e3,.b 2<|q]
theorem Dy(n:Nat)(S:Sm) :∃G fs,cF P (n+22) 41 [.fz<|.list<|S.map .int]=gK (.tuple [.list<|G.map eW,fM fs])/\vi G fs:=by
 refine aR (cell (n+20) S 18 (by decide)) λc hc=>?_;by_cases q:c.fmod 4=1
 .have q:bZ .eq (.int<|c.fmod 4) (.int 1)=some true:=by rw[j9];exact Er (ak q) rfl
  obtain⟨fs,sp,ok⟩:=vB (n+19) S;refine⟨Ep,fs,?_,ok⟩;generalize fM fs=F at sp |-;exact bB [.c 0<|hc,.b 1<|q,.c 1<|sp]
 .have q:bZ .eq (.int<|c.fmod 4) (.int 1)=some false:=by rw[j9];exact Er (aA q) rfl
  refine m5 (CD (n+19) S) λl G r Q=>?_;obtain⟨fs,h2,hp⟩:=vJ n S Q.2.1;refine⟨G,fs,?_,OX Q.2.1 hp⟩;generalize fM fs=F at h2 |-;rcases Q.2.2 with rfl | rfl
  .exact bB [.c 0<|hc,.b 1<|q,.c 1<|Q.1,.c 0<|h2]
  .exact bB [.c 0<|hc,.b 1<|q,.c 1<|Q.1,.c 0<|h2]
noncomputable abbrev tF(S:Sm) :Slot:=.fz<|.list<|S.map .int
def wr:Nat->T->T
 | 0,t=>t
 | k+1,t=>wr k<|.doo b6 [t]
theorem NM:∀k r t,Ok G kn ns r t->Ok G kn ns (r+k) (wr k t):=by intro k;induction k with
 | zero=>exact λr t h=>h
 | succ k ih=>intro r t h;have:=ih (r+1) (.doo b6 [t]) ⟨⟨by kernel_rfl,by kernel_rfl⟩,λu hu=>by refine Er (aJ.mp hu) ?_;exact h⟩;rw[d7]at this;exact this
theorem Me:∀k t,lG (wr k t)=lG t:=by intro k;induction k with
 | zero=>exact λj0_=>rfl
 | succ k ih=>intro t;show lG (wr k<|.doo b6 [t])=_;rw[ih];exact aI _
theorem EQ(N:Nat)(a0 a1 a2 a3 a4 a5 a6 a9:Slot) :∀SJ t s8,dJ (ds N) [a0,a1,a2,a3,a4,a5,a6,.fz<|cz t,s8,a9] (.one 8) Rn [8] SJ=some (.ok .next,[a0,a1,a2,a3,a4,a5,a6,.fz<|cz<|wr SJ.length t,.no,a9]):=by intro SJ;induction SJ with
 | nil=>exact @λt s8=>by rw[b4];rfl
 | cons i SJ IH=>intro t s8;have ih:=IH (.doo b6 [t])<|.fz i;rw[(rfl:cz (.doo b6 [t]) = .tuple [.str jX,.str b6,.tuple [cz t]])]at ih;generalize cz (wr SJ.length<|.doo b6 [t])=z at ih |-;generalize cz t=x at ih |-;exact gI [.lp 0<|ih]
theorem FV(N:Nat)(a0 a1 a2 a3 a4 a5 a6 a7 a8:Slot) :∀(ps:Sd)(s9:Slot),dC (ds N) [a0,a1,a2,a3,a4,a5,a6,a7,a8,s9] (.tup [yh,gi]) (.one 9) [] (ps.map .str)=some (.ok<|encs<|ps.map .nam,[a0,a1,a2,a3,a4,a5,a6,a7,a8,.no]):=by intro ps;induction ps with
 | nil=>exact @λs9=>by refine Er aZ ?_;rw[cI];rfl
 | cons p ps IH=>intro s9;have ih:=IH<|.fz<|.str p;refine Er ay ?_;generalize encs (ps.map .nam)=z at ih |-;exact p9 [.cp 0<|ih]
theorem K8{x:Str} :∀{ps:Sd}{wn:Sp},(T.nam x,true)∈(ps.map T.nam).zip wn->x∈eL ps wn:=by intro ps;induction ps with
 | nil=>intro wn h;cases h
 | cons p ps ih=>intro wn h;cases wn with
  | nil=>cases h
  | cons b wn=>
   rcases am.mp (show(T.nam x,true)∈(T.nam p,b)::(ps.map T.nam).zip wn from h) with g | g
   .cases g;exact aa
   .cases b with
    | true=>exact ac _<|ih g
    | false=>exact ih g
theorem Ok.sub(hm:∀h∈G,h∈hs') :∀{r:Nat}{t:T},Ok G kn ns r t->Ok hs' kn ns r t:=by intro r;induction r with
 | zero=>exact λh=>h.elim
 | succ r ih=>intro t h;cases t with
  | val d=>exact h
  | nam x=>trivial
  | ref x=>trivial
  | iff ps=>exact⟨h.1,λt m=>ih<|h.2 t m⟩
  | doo op ps=>exact⟨h.1,λt m=>ih<|h.2 t m⟩
  | call f ps=>obtain⟨⟨g,hg,a⟩,b⟩:=h;exact⟨⟨g,hm g hg,a⟩,λt m=>ih<|b t m⟩
structure Mw(G:List Hd)(fs:List ij) :Prop where
 pg:Pg G fs 20
 cn:∀f∈fs,(lG f.2).length<=Sz
 ne:fs≠ []
theorem vi.tp20(a:vi G fs) :Mw G fs:=by obtain⟨⟨p1,p2,p3,p4,p5,p6,p7,p8⟩,cn,ne,_,_⟩:=a;exact⟨⟨p1,λf hf=>(p2 f hf).mono (by decide),p3,p4,p5,p6,p7,p8⟩,cn,λe=>ne (by refine Er p1.symm<|Er e ?_;rfl)⟩
theorem JK(a:vi (h0::hr) fs){k:Nat}(hk:k<=17) :Mw (⟨hS,h0.ps,h0.wn⟩::h0::hr) ((⟨hS,h0.ps,h0.wn⟩,wr k<|.call h0.nm<|h0.ps.map .nam)::fs):=by
 obtain⟨⟨p1,p2,p3,p4,p5,p6,p7,p8⟩,cn,ne,l4,tp⟩:=a;have sub:∀h∈h0::hr,h∈(⟨hS,h0.ps,h0.wn⟩::h0::hr:List Hd):=λh hm=>ac _ hm;have all:∀Q:Hd->Prop,(∀h∈h0::hr,Q h)->(∀ps wn nm nm',Q ⟨nm,ps,wn⟩->Q ⟨nm',ps,wn⟩)-> ∀h∈(⟨hS,h0.ps,h0.wn⟩::h0::hr:List Hd),Q h:=λQ H t h hm=>by
  rcases am.mp hm with rfl | hm
  .exact t _ _ _ _ (H h0 aa)
  .exact H h hm
 refine⟨⟨congrArg (_ :: ·) p1,λf hf=>?_,bh.mpr ⟨tp,p3⟩,all _ p4 (λj0_ j1_ j2_ j3_ h=>h),all _ p5 (λj0_ j1_ j2_ j3_ h=>h),all _ p6 (λj0_ j1_ j2_ j3_ h=>h),all _ p7 (λj0_ j1_ j2_ j3_ h=>h),?_⟩,λf hf=>?_,by simp⟩
 .rcases am.mp hf with rfl | hf
  .refine(NM k 2 _ ?_).mono (show 2+k<=20 by exact(Ln [k] (.w (.a (.c 2) .x)<|.c 20) [Gl .x<|.c 17] rfl hk))
   refine⟨⟨h0,.tail _<|.head _,rfl,by rw[ai];exact Er (p4 h0 aa) rfl,λp hp q=>?_⟩,λu hu=>?_⟩
   .obtain⟨u,b⟩:=p;subst q;obtain⟨x,Z⟩:=aH.mp (jb hp).1;obtain rfl:=Z.2;exact .nam<|K8 hp
   .refine aR (aH.mp hu) λx z=>?_;obtain rfl:=z.2;exact z.1
  .exact((p2 f hf).sub sub).mono (by decide)
 .exact dh l4
 .rcases am.mp hf with rfl | hf
  .rw[Me];show(cins (h0.ps.map .nam)++[_]).length<=Sz
   have e:∀l:Sd,cins (l.map .nam)=[]:=λl=>by induction l with
    | nil=>rfl
    | cons x l ih=>exact ih
   rw[e];show 1<=16777216;decide
  .exact cn f hf
theorem yD(N:Nat)(S:Sm)(a:vi G fs) :∃hs' fs',cF P (N+2) 42 [tF S,sH G,.fz<|fM fs]=gK (.tuple [.list<|hs'.map eW,fM fs'])/\Mw hs' fs':=by
 obtain⟨c,hc⟩:=cell N S 20 (by decide);by_cases q:c.fmod 6=1
 .have q1:bZ .ne (.int<|c.fmod 6) (.int 1)=some false:=by rw[pG,ph,ak q];rfl
  cases G with
  | nil=>exact absurd rfl a.ne
  | cons h0 hr=>
   have h17:=fm (c.fdiv 6) 17 (by decide);obtain⟨k,hk⟩ :∃k:Nat,1+(c.fdiv 6).fmod 17=(k:Int):=⟨(1+(c.fdiv 6).fmod 17).toNat,(dI<|Int.add_nonneg (by decide) h17.1).symm⟩
   have k17:k<=17:=by have:=h17.2;omega
   have ha:op2 .add (.int 1) (.int<|(c.fdiv 6).fmod 17)=some (.fz<|.int (k:Int)):=by rw[KR,hk]
   have hr':di .range [.int (k:Int)]=some ((List.range k).map λ(k:Nat)=>PyData.int<|0+k):=(dB _).trans<|ek k<|(Ln [k] (.w .x<|.c 1000) [Gl .x<|.c 17] rfl k17);refine⟨_,_,?_,JK a k17⟩;have cp:=FV (N+1) (tF S) (sH (h0::hr)) (.fz<|fM fs) (.fz<|.int c) (.fz<|.str h0.nm) (.fz<|eP h0.ps) (.fz<|.tuple<|h0.wn.map .bool) .no .no h0.ps .no;have lp:=EQ (N+1) (tF S) (sH (h0::hr)) (.fz<|fM fs) (.fz<|.int c) (.fz<|.str h0.nm) (.fz<|eP h0.ps) (.fz<|.tuple<|h0.wn.map .bool) .no ((List.range k).map λ(k:Nat)=>PyData.int<|0+k) (.call h0.nm<|h0.ps.map .nam) .no;rw[ai,aO,(rfl:cz (.call h0.nm<|h0.ps.map .nam) = .tuple [.str dQ,.str h0.nm,.tuple<|encs<|h0.ps.map .nam])]at lp;have l4:=a.l4;have o1:op2 .add (.list [.tuple [.str hS,eP h0.ps,.tuple<|h0.wn.map .bool]]) (.list<|(h0::hr).map eW)=some (.own<|.list (.tuple [.str hS,eP h0.ps,.tuple<|h0.wn.map .bool]::(h0::hr).map eW)):=by refine(vQ _ _).trans<|if_pos ?_;rw[ai];show 1+(h0::hr).length<=16777216;omega
   have o2:op2 .add (.tuple [.tuple [.str hS,eP h0.ps,cz<|wr k<|.call h0.nm<|h0.ps.map .nam]]) (fM fs)=some (.fz<|.tuple (.tuple [.str hS,eP h0.ps,cz<|wr k<|.call h0.nm<|h0.ps.map .nam]::fs.map nY)):=by
    show op2 .add _ (.tuple<|fs.map nY)=_
    refine(mW _ _).trans<|if_pos ?_;rw[ai,<- ai (f:=λp:ij=>p.1),a.pg.hd];show 1+(h0::hr).length<=16777216;omega
   rw[show(((⟨hS,h0.ps,h0.wn⟩::h0::hr:List Hd)).map eW) = .tuple [.str hS,eP h0.ps,.tuple<|h0.wn.map .bool]::(h0::hr).map eW from rfl,show fM ((⟨hS,h0.ps,h0.wn⟩,wr k<|.call h0.nm<|h0.ps.map .nam)::fs) = .tuple (.tuple [.str hS,eP h0.ps,cz<|wr k<|.call h0.nm<|h0.ps.map .nam]::fs.map nY) from rfl];generalize cz (wr k<|.call h0.nm<|h0.ps.map .nam)=W at *;generalize encs (h0.ps.map .nam)=M at *;generalize ((k:Nat) :Int)=j at *;exact bB [.c 0<|hc,.b 1<|q1,.cp 3<|cp,.v 3<|ha,.l 0<|hr',.lp 0<|lp,.v 0<|o1,.v 0<|o2]
 .have q1:bZ .ne (.int<|c.fmod 6) (.int 1)=some true:=by rw[pG,ph,aA q];rfl
  refine⟨G,fs,?_,a.tp20⟩;exact bB [.c 0<|hc,.b 1<|q1]
theorem GP(n:Nat)(S:Sm)(a1:Slot) :∀(js:Sg)(SK:Sb)(s3 s4:Slot),SK.length+js.length<=1000->Ai (λks=>dJ (ds<|n+1) [tF S,a1,.own<|.list SK,s3,s4] (.one 3) Ry [3,4] (js.map λ(j:Nat)=>.int<|0+j)=some (.ok .next,[tF S,a1,.own<|.list<|SK++ks,.no,.no])) (λks=>ks.length=js.length) (λks=> ∀k∈ks,k∈Sl):=by intro js;induction js with
 | nil=>intro SK s3 s4 _;exact⟨[],by refine Er aZ ?_;rw[aI];exact b4 ..,rfl,λj0_ h=>by cases h⟩
 | cons j js ih=>
  intro SK s3 s4 hl;rw[aD]at hl;refine aR (cell n S (12+(0+(j:Int)))<|(Ln [j] (.i (.c 0)<|.a (.c 12)<|.a (.c 0)<|.n .x) [] rfl)) λc hc=>?_;refine aR (cell n S 1 (by decide)) λc1 hc1=>?_;obtain⟨d,hd,hv⟩:=CW n c<|(1+c1.fmod 4).fmod 3;obtain⟨ks,q,e,G⟩:=ih (SK++[d]) (.fz<|.int<|0+j) (.fz<|.int c) (by refine Er aj<|Er cu ?_;omega);refine⟨d::ks,?_,by exact Er aD<|Er aD<|Er e rfl,λk hk=>?_⟩
  .have hz:decide (SK.length<Sz)=true:=ak (by show SK.length<16777216;omega);rw[ah]at q;refine Er ay ?_;generalize (0:Int)+(j:Nat)=i at *;exact gI [.c 1<|hc,.c 0<|hc1,.c 3<|hd,.t 0<|hz,.lp 0<|q]
  .rcases am.mp hk with rfl | hk
   .exact hv.2
   .exact G k hk
theorem zg(n:Nat)(S:Sm)(many:Nat)(hm:many<=1000) :∃ks,cF P (n+2) 38 [tF S,.fz<|.int many]=gK (.tuple ks)/\ks.length=many/\ ∀k∈ks,k∈Sl:=by obtain⟨ks,q,e,G⟩:=GP n S (.fz<|.int many) (List.range many) [] .no .no (by refine Er aO ?_;show 0+many<=1000;exact(Ln [many] (.w (.a (.c 0) .x)<|.c 1000) [Gl .x<|.c 1000] rfl hm));refine⟨ks,?_,by exact Er e<|Er aO rfl,G⟩;rw[cK]at q;generalize ((many:Nat) :Int)=j at *;exact bB [.l 0<|((dB _).trans<|ek many hm),.lp 0<|q]
noncomputable abbrev KD(h:Hd) :D:=.tuple [.str h.nm,.tuple<|h.wn.map .bool]
theorem Fd(n:Nat)(a0:Slot) :∀(G:List Hd)(s1:Slot),dC (ds n) [a0,s1] (.tup [iM,(.idx d8 io)]) (.one 1) [] (G.map eW)=some (.ok<|G.map KD,[a0,.no]):=by intro G;induction G with
 | nil=>intro s1;refine Er aZ ?_;rw[cI];rfl
 | cons h G ih=>exact λs1=>Er ay<|Er ay<|p9 [.cp 2<|(ih<|.fz<|eW h)]
theorem LZ:∀G SK,((SK++G).map (·.nm)).Nodup->jH (dq SK) (G.map KD)=some (dq<|SK++G):=by intro G;induction G with
 | nil=>intro SK _;rw[aI];rfl
 | cons h G ih=>
  intro SK nd;show jH (f8 (dq SK) h.nm<|.tuple<|h.wn.map .bool) (G.map KD)=_
  have nk:Px (dq SK) h.nm:=λp hp=>by obtain⟨g,hg,rfl⟩:=aH.mp hp;intro e;rw[aY,gS]at nd;exact nd.2.2 g.nm (aH.mpr ⟨g,hg,rfl⟩) h.nm aa<|PyData.str.inj e
  have e:f8 (dq SK) h.nm (.tuple<|h.wn.map .bool)=dq (SK++[h]):=by
   unfold f8;refine Er (l5 nk) ?_;show dq SK++[_]=_
   unfold dq;refine Er aY ?_;rfl
  refine Er e ?_;rw[ih (SK++[h]) (by rw[ah];exact nd),ah];rfl
theorem vC(n:Nat)(nd:(G.map (·.nm)).Nodup)(h5:G.length<=5) :cF P (n+1) 39 [sH G]=some (.ok<|.own<|.dict<|dq G,[]):=by
 have e:pI .dict [.list<|G.map KD]=some (.own<|.dict<|dq G):=by
  show(if (G.map KD).length<=1000 then(jH []<|G.map KD).map λSN=>Rv.own (.dict SN) else none)=_
  refine Er (if_pos (by rw[ai];exact(Ln [G.length] (.w .x<|.c 1000) [Gl .x<|.c 5] rfl h5)))<|Er (show jH [] (G.map KD)=some (dq G) from LZ G [] nd) ?_;rfl
 exact bB [.cp 1<|(Fd n (sH G) G .no),.v 0<|e]
abbrev Env:=List<|D×D
def lk(env:Env)(x:Str) :D:=(bU env x).getD .none
noncomputable abbrev lJ:=Str×Sd×T
abbrev j6(g:lJ) :D:=.tuple [.str g.1,eP g.2.1,cz g.2.2]
abbrev hW(p:List lJ) :D:=.tuple<|p.map j6
noncomputable def fnOf(fs:List lJ)(f:Str) :lJ:=(fs.find? λg=>decide<|g.1=f).getD (⟨#[]⟩,[],.ref ⟨#[]⟩)
abbrev Rs:=Se D×Nat
abbrev Ms:=Nat->Rs
def gZ:List Ms->Nat->Se Sb×Nat
 | [],c=>(.ok [],c)
 | t::ts,c=>match t c with
  | (.error e,c)=>(.error e,c)
  | (.ok v,c)=>match gZ ts c with
   | (.error e,c)=>(.error e,c)
   | (.ok O,c)=>(.ok (v::O),c)
def MU(R:Rs)(F:Nat->Bool->Rs) :Rs:=match R with
 | (.error x,c)=>(.error x,c)
 | (.ok<|.tuple _,c)=>(.error aS,c)
 | (.ok v,c)=>F c<|dK v<|.int 0
def Jj(R:Se Sb×Nat)(r:Sb->Se D) :Rs:=match R with
 | (.error x,c)=>(.error x,c)
 | (.ok O,c)=>(r O,c)
def M0(m:Nat)(R:Se Sb×Nat)(F:Sb->Nat->Rs) :Rs:=match R with
 | (.error x,c)=>(.error x,c)
 | (.ok O,c)=>if m<c+1 then(.error bu,c+1) else F O (c+1)
def QE:List Ms->Ms
 | [a,b,e],c=>MU (a c) λc x=>eH x (e c)<|b c
 | _,c=>(.error ⟨#[]⟩,c)
mutual
noncomputable def sv(m:Nat)(SD:Str->Sb->Ms)(env:Env) :T->Ms
 | .val d=>λc=>(.ok d,c)
 | .nam x=>λc=>(.ok<|lk env x,c)
 | .ref w=>λc=>(.error w,c)
 | .iff ps=>QE<|svs m SD env ps
 | .doo op ps=>λc=>Jj (gZ (svs m SD env ps) c)<|dn op
 | .call f ps=>λc=>M0 m (gZ (svs m SD env ps) c)<|SD f
noncomputable def svs(m:Nat)(SD:Str->Sb->Ms)(env:Env) :List T->List Ms
 | []=>[]
 | t::ts=>sv m SD env t::svs m SD env ts
end
def cl(fs:List lJ)(m:Nat) :Nat->Str->Sb->Ms
 | 0,_,_,c=>(.error bu,c)
 | j+1,f,O,c=>sv m (cl fs m j) (kv (fnOf fs f).2.1 O) (fnOf fs f).2.2 c
theorem jg(ts:List T) :svs m SD env ts=ts.map (sv m SD env):=by induction ts with
 | nil=>rfl
 | cons t ts ih=>show _::_=_::_;exact Er ih rfl
noncomputable def ar(fs:List lJ)(f:Str) :Option Nat:=(fs.find? λg=>decide<|g.1=f).map λg=>g.2.1.length
noncomputable def Wf(A:Str->Option Nat)(ns:Sd) :Nat->T->Prop
 | 0,_=>False
 | r+1,t=>match t with
  | .val d=>Vg d
  | .nam x=>x∈ns
  | .ref x=>x∈fy
  | .iff ps=>ps.length=3/\ ∀t∈ps,Wf A ns r t
  | .doo op ps=>(jY op=true/\c8 op ps.length=true)/\ ∀t∈ps,Wf A ns r t
  | .call f ps=>A f=some ps.length/\ ∀t∈ps,Wf A ns r t
structure PW(fs:List lJ)(H:Nat) :Prop where
 fn:∀g∈fs,g.2.1.length<=6/\g.2.1.Nodup/\Wf (ar fs) g.2.1 H g.2.2
 nd:(fs.map (·.1)).Nodup
 len:fs.length<=100000
structure Rb(fs:List lJ)(H:Nat)(f:Str)(k:Nat) :Prop where
 find:(fs.find? λg=>decide<|g.1=f)=some (fnOf fs f)
 mem:fnOf fs f∈fs
 len:(fnOf fs f).2.1.length=k
 k6:k<=6
 nd:(fnOf fs f).2.1.Nodup
 ok:Wf (ar fs) (fnOf fs f).2.1 H (fnOf fs f).2.2
theorem PW.at{H:Nat}(pw:PW fs H){k:Nat}(h:ar fs f=some k) :Rb fs H f k:=by
 obtain⟨g,hg,e⟩:=aT.mp h;have q:fnOf fs f=g:=by unfold fnOf;rw[hg];rfl
 have m:=List.mem_of_find?_eq_some hg;have o:=pw.fn g m;exact⟨by rw[q];exact hg,q▸m,q▸e,e▸o.1,q▸o.2.1,q▸o.2.2⟩
mutual
noncomputable def sz:T->Nat
 | .iff ps=>1+szs ps
 | .doo _ ps=>1+szs ps
 | .call _ ps=>1+szs ps
 | _=>1
noncomputable def szs:List T->Nat
 | []=>0
 | t::ts=>sz t+szs ts
end
mutual
noncomputable def ht:T->Nat
 | .iff ps=>1+hts ps
 | .doo _ ps=>1+hts ps
 | .call _ ps=>1+hts ps
 | _=>1
noncomputable def hts:List T->Nat
 | []=>0
 | t::ts=>max (ht t)<|hts ts
end
theorem JM:∀ts,(∀t∈ts,7*sz t+1<=X)->7*szs ts+ts.length<=ts.length*X:=by intro ts;induction ts with
 | nil=>exact @λj0_=>ba _
 | cons t ts ih=>
  intro h;have h1:=h t aa;have h2:=ih λu hu=>h u<|ac _ hu;show 7*(sz t+szs ts)+(ts.length+1)<=(ts.length+1)*X
  rw[Nat.add_mul];omega
theorem Lw:∀ts,(∀t∈ts,ht t<=m)->hts ts<=m:=by intro ts;induction ts with
 | nil=>exact @λj0_=>ba _
 | cons t ts ih=>intro h;exact jv.mpr ⟨h t aa,ih λu hu=>h u<|ac _ hu⟩
theorem RN{k X s:Nat}(hk:k<=8)(hX:1<=X)(h:7*s+k<=k*X) :7*(1+s)+1<=X*8:=by
 obtain⟨j,hj⟩ :∃j,k+j=8:=⟨8 - k,cw hk⟩
 have e:X*8=k*X+j*X:=by rw[<- hj,Nat.mul_add];exact Er (kh X k)<|Er (kh X j) rfl
 have f:=Nat.mul_le_mul_left j hX;rw[Nat.mul_one]at f;rw[e];omega
theorem Wf.small(hc:∀f k,A f=some k->k<=6) :∀r t,Wf A ns r t->7*sz t+1<=8 ^ r/\ht t<=r:=by intro r;induction r with
 | zero=>exact λt h=>h.elim
 | succ r ih=>
  intro t h;have p:1<=8 ^ r:=Nat.pow_pos (by decide);have lf:7*1+1<=8 ^ (r+1)/\1<=r+1:=⟨by rw[Nat.pow_succ];exact Nat.mul_le_mul_right 8 p,eJ _ _⟩
  have go:∀{ps:List T},ps.length<=8->(∀t∈ps,Wf A ns r t)->7*(1+szs ps)+1<=8 ^ (r+1)/\1+hts ps<=r+1:=λ{ps} h8 hp=>by
   refine⟨?_,?_⟩
   .rw[Nat.pow_succ];exact RN h8 p<|JM ps λt ht=>(ih t<|hp t ht).1
   .rw[cU];exact dh<|Lw ps λt ht=>(ih t<|hp t ht).2
  cases t with
  | val d=>exact lf
  | nam d=>exact lf
  | ref d=>exact lf
  | iff ps=>exact go (by rw[h.1];decide) h.2
  | doo f ps=>exact go (jK h.1.2) h.2
  | call f ps=>exact go (af (hc _ _ h.1) (by decide)) h.2
theorem PW.a6{H:Nat}(pw:PW fs H)(f:Str)(k:Nat)(h:ar fs f=some k) :k<=6:=(pw.at h).k6
theorem wj(t:T) :1<=ht t:=by cases t <;> first | exact aQ 1 | exact aq 1 _
theorem kJ{t:T}(h:t∈ps) :ht t<=hts ps:=by induction ps with
 | nil=>cases h
 | cons p ps ih=>
  show ht t<=max (ht p) (hts ps)
  rcases am.mp h with rfl | h
  .exact nB _ _
  .exact af (ih h) (lO _ _)
abbrev Dg:Sd:=bu::fy
noncomputable def Ju:Se D->Prop
 | .ok v=>Vg v
 | .error e=>e∈Dg
theorem Et.e(h:Et r) :Ju r:=by cases r with
 | ok v=>exact h
 | error e=>exact ac _ h
theorem wT{O:Sb}(nd:ps.Nodup)(hl:ps.length=O.length)(h6:ps.length<=6) :pI .dzip [.tuple<|ps.map .str,.tuple O]=some (.own<|.dict<|kv ps O):=by
 show(if (ps.map PyData.str).length<=1000 then(jH []<|gT (ps.map .str) O).map λSN=>Rv.own (.dict SN) else none)=_
 rw[if_pos (by rw[ai];exact(Ln [ps.length] (.w .x<|.c 1000) [Gl .x<|.c 6] rfl h6)),Cc ps [] O nd hl λp j0_ z hz=>by cases hz];rfl
theorem Dw{O:Sb}(nd:ps.Nodup)(hl:ps.length=O.length)(h6:ps.length<=6) :pI .dzip [.tuple<|ps.map .str,.list O]=some (.own<|.dict<|kv ps O):=wT nd hl h6
noncomputable abbrev cL(c m:Nat) :Slot:=.own<|.list [.int c,.int m]
abbrev QX(n:Nat) :gR:=⟨P.glob,cF P n,[3],false,bT P⟩
abbrev IP(fs:List lJ)(t:T)(env:Env)(c m:Nat) :List Slot:=[.fz<|hW fs,.fz<|cz t,.fz<|.dict env,cL c m]
abbrev Np(m:Nat)(R:Rs) :Option (Se Rv×List Slot):=some (.ok<|.fz<|eG R.1,[cL R.2 m])
structure Tok(N:Nat)(fs:List lJ)(m:Nat)(env:Env)(t:T)(c:Nat)(R:Rs) :Prop where
 run:cF P N 25 (IP fs t env c m)=Np m R
 vg:Ju R.1
 up:c<=R.2
inductive pP(N:Nat)(fs:List lJ)(m:Nat)(env:Env)(a1 a4 a8 a9:Slot)(SK:Sb)(s6 s7:Slot)(ts:List T)(c:Nat)(R:Se Sb×Nat) :Prop
 | ok (O:Sb) :R.1 = .ok O->dJ (QX N) [.fz<|hW fs,a1,.fz<|.dict env,cL c m,a4,.own<|.list SK,s6,s7,a8,a9] (.one 6) AG [6,7] (encs ts)=some (.ok .next,[.fz<|hW fs,a1,.fz<|.dict env,cL R.2 m,a4,.own<|.list<|SK++O,.no,.no,a8,a9])->
   (∀v∈O,Vg v)->O.length=ts.length->c<=R.2->pP N fs m env a1 a4 a8 a9 SK s6 s7 ts c R
 | err (e:Str) (s5 s6' s7':Slot) :R.1 = .error e->dJ (QX N) [.fz<|hW fs,a1,.fz<|.dict env,cL c m,a4,.own<|.list SK,s6,s7,a8,a9] (.one 6) AG [6,7] (encs ts)=some (.ok<|.ret<|.fz<|eG<|.error e,[.fz<|hW fs,a1,.fz<|.dict env,cL R.2 m,a4,s5,s6',s7',a8,a9])->
   c<=R.2->e∈Dg->pP N fs m env a1 a4 a8 a9 SK s6 s7 ts c R
theorem fC(t:Ms)(ts:List Ms)(c:Nat) :gZ (t::ts) c=match t c with
  | (.error e,c)=>(.error e,c)
  | (.ok v,c)=>match gZ ts c with
   | (.error e,c)=>(.error e,c)
   | (.ok O,c)=>(.ok (v::O),c):=rfl
theorem qD(N:Nat)(fs:List lJ)(m c0:Nat)(env:Env)(a1 a4 a8 a9:Slot)(f:T->Ms) :∀ts SK c s6 s7,(∀t∈ts, ∀c,c0<=c->Tok N fs m env t c (f t c))->c0<=c->SK.length+ts.length<=1000->
  pP N fs m env a1 a4 a8 a9 SK s6 s7 ts c (gZ (ts.map f) c):=by
 intro ts;induction ts with
 | nil=>exact @λSK c s6 s7 j0_ j1_ j2_=>.ok [] rfl (by rw[aI];rfl) (λv h=>by cases h) rfl<|aQ _
 | cons t ts IH=>intro SK c s6 s7 h hc hl;have h1:=h t aa c hc;rw[ay,fC];rcases hf:f t c with⟨r,c1⟩;rw[hf]at h1;obtain⟨run,vg,up⟩:=h1;have hl:=hl;cases r with
  | error e=>refine .err e (.own<|.list SK) (.fz<|cz t) (.fz<|eG<|.error e) rfl ?_ up vg;exact gI [.c 0<|run]
  | ok v=>
   have ih:=IH (SK++[v]) c1 (.fz<|cz t) (.fz<|eG<|.ok v) (λt ht=>h t<|ac _ ht) (af hc up) (by refine Er aj ?_;show SK.length+1+ts.length<=1000;exact(Ln [SK.length,ts.length] (.w (.a (.p 1 .x) .y)<|.c 1000) [Gl (.a .x<|.p 1 .y)<|.c 1000] rfl ‹SK.length+(t::ts).length<=(1000:Nat)›));have G:SK.length<Sz:=by show SK.length<16777216;omega
   dsimp only;rcases hg:gZ (ts.map f) c1 with⟨r2,c2⟩;have ih:=hg▸ih;cases ih with
   | ok O e1 e2 e3 e4 e5=>
    cases e1;refine .ok (v::O) rfl ?_ (λu hu=>?_) (congrArg (· + 1) e4)<|af up e5
    .rw[ah]at e2;exact gI [.c 0<|run,.t 4 (show decide (SK.length<Sz)=true by simp only[G,dL]),.lp 0<|e2]
    .rcases am.mp hu with rfl | hu
     .exact vg
     .exact e3 u hu
   | err e s5 s6' s7' e1 e2 e3 e4=>cases e1;refine .err e s5 s6' s7' rfl ?_ (af up e3) e4;exact gI [.c 0<|run,.t 4 (show decide (SK.length<Sz)=true by simp only[G,dL]),.lp 0<|e2]
noncomputable def MG(ns:Sd)(env:Env) :Prop:= ∀x∈ns, ∃v,bU env x=some v/\Vg v
theorem oq{O:Sb}(hl:ps.length=O.length)(hv:∀v∈O,Vg v) :MG ps (kv ps O):=λx hx=>by obtain⟨v,e,m⟩:=mZ hx hl;exact⟨v,e,hv v m⟩
abbrev R6:List Ex:=[(hs (.idx gi fK) mz)]
theorem Ij(N:Nat)(f:Str)(w d:D)(a0 a2 a3 a4 a5 a6 a7 a8:Slot) :∀(fs:List lJ)(s9:Slot),
  dC (QX N) [a0,.fz<|.tuple [w,.str f,d],a2,a3,a4,a5,a6,a7,a8,s9] gi (.one 9) R6 (fs.map j6)=some (.ok<|(fs.filter λg=>decide<|g.1=f).map j6,[a0,.fz<|.tuple [w,.str f,d],a2,a3,a4,a5,a6,a7,a8,.no]):=by
 intro fs;induction fs with
 | nil=>exact @λs9=>by refine Er aZ ?_;rw[cI];rfl
 | cons g fs IH=>
  intro s9;refine Er ay ?_;by_cases q:g.1=f
  .have e:((g::fs).filter λg=>decide<|g.1=f)=g::fs.filter λg=>decide (g.1=f):=List.filter_cons_of_pos<|Er (ak q) rfl;refine Er e<|Er ay ?_;have q':=NJ q;exact p9 [.b 2<|q',.cp 1<|(IH<|.fz<|j6 g)]
  .have e:((g::fs).filter λg=>decide<|g.1=f)=fs.filter λg=>decide (g.1=f):=List.filter_cons_of_neg (by refine Er (aA q) ?_;decide);refine Er e ?_;have q':=nV q;exact p9 [.b 2<|q',.cp 1<|(IH<|.fz<|j6 g)]
theorem CU{fs:List lJ}{f:Str}{g:lJ}(h:(fs.find? λg=>decide<|g.1=f)=some g) :da ((fs.filter λg=>decide<|g.1=f).map j6) 0=some (j6 g):=by
 rw[<- List.head?_filter]at h;show((fs.filter λg=>decide<|g.1=f).map j6)[0]? = _
 rw[bn,<- List.head?_eq_getElem?,h];rfl
theorem Nk(N:Nat)(fs:List lJ)(m:Nat)(env:Env)(c:Nat)(d:D)(h:Vg d) :Tok (N+1) fs m env (.val d) c (.ok d,c):=⟨by exact bB [],h,aQ _⟩
theorem Nm(N:Nat)(fs:List lJ)(m:Nat)(env:Env)(c:Nat)(x:Str)(v:D)(e:bU env x=some v)(h:Vg v) :Tok (N+1) fs m env (.nam x) c (.ok v,c):=by have e':jE (.dict env) (.str x)=some v:=e;exact⟨by exact bB [.d 7<|e'],h,aQ _⟩
theorem Nl(N:Nat)(fs:List lJ)(m:Nat)(env:Env)(c:Nat)(x:Str)(hx:x∈fy) :Tok (N+1) fs m env (.ref x) c (.error x,c):=⟨by exact bB [],ac _ hx,aQ _⟩
theorem Nn(N:Nat)(fs:List lJ)(m:Nat)(env:Env)(c:Nat)(a b e:T)(R:Rs)(F:Nat->Bool->Rs)(ha:Tok N fs m env a c R)(hb:∀c',c<=c'->Tok N fs m env b c' (F c' false))(he:∀c',c<=c'->Tok N fs m env e c' (F c' true)) :
  Tok (N+1) fs m env (.iff [a,b,e]) c (MU R F):=by
 obtain⟨r,c1⟩:=R;obtain⟨run,vg,up⟩:=ha;have up:c<=c1:=up;cases r with
 | error x=>exact⟨by exact bB [.c 13<|run],vg,up⟩
 | ok v=>
  rcases Vg.k vg with⟨i,rfl,_⟩ | ⟨s,rfl,_⟩
  .by_cases q:i=0
   .have h2:=he c1 up;subst q;show Tok _ _ _ _ _ _ (F c1 true)
    rcases hF:F c1 true with⟨r2,c2⟩;rw[hF]at h2;obtain⟨run2,vg2,up2⟩:=h2;exact⟨by exact bB [.c 13<|run,.c 11<|run2],vg2,af up up2⟩
   .have h2:=hb c1 up;have q':bZ .eq (.int i) (.int 0)=some false:=by rw[j9];exact Er (aA q) rfl
    have qs:dK (.int i) (.int 0)=false:=by unfold dK;rw[show qU (.int i) (.int 0)=some false from q'];rfl
    show Tok _ _ _ _ _ _ (F c1<|dK (.int i)<|.int 0)
    rw[qs];rcases hF:F c1 false with⟨r2,c2⟩;rw[hF]at h2;obtain⟨run2,vg2,up2⟩:=h2;exact⟨by exact bB [.c 13<|run,.b 7<|q',.c 3<|run2],vg2,af up up2⟩
  .exact⟨by exact bB [.c 13<|run],(show aS∈Dg by decide),up⟩
theorem Qd(N:Nat)(fs:List lJ)(m:Nat)(env:Env)(c:Nat)(op:Str)(ps:List T)(R:Se Sb×Nat)(r:Sb->Se D)(hl:pP N fs m env (.fz<|cz<|.doo op ps) .no .no .no [] .no .no ps c R)
  (hd:∀O,R.1 = .ok O->O.length=ps.length->(∀v∈O,Vg v)->cF P N 24 [vK op,.fz<|.list O]=gK (eG<|r O)/\Ju (r O)) :
  Tok (N+1) fs m env (.doo op ps) c (Jj R r):=by
 obtain⟨q,c1⟩:=R;cases hl with
 | err e s5 s6 s7 e1 e2 e3 e4=>cases e1;exact⟨by exact bB [.lp 14<|e2],e4,e3⟩
 | ok O e1 e2 e3 e4 e5=>refine cX λSD g=>?_;cases e1;have Q:=hd O rfl e4 e3;rw[cK]at e2;exact g <| ⟨by exact bB [.lp 14<|e2,.c 4<|Q.1],Q.2,e5⟩
theorem JL(N:Nat)(fs:List lJ)(m:Nat)(env:Env)(c:Nat)(f:Str)(ps:List T)(R:Se Sb×Nat)(F:Sb->Ms)(g:lJ)(hg:(fs.find? λg=>decide<|g.1=f)=some g)(hl:pP N fs m env (.fz<|cz<|.call f ps) .no .no .no [] .no .no ps c R)
  (nd:g.2.1.Nodup) (h6:g.2.1.length<=6) (hn:g.2.1.length=ps.length)
  (hd:∀O c',c<=c'-> ¬m<c'+1->O.length=ps.length->(∀v∈O,Vg v)->Tok N fs m (kv g.2.1 O) g.2.2 (c'+1) (F O<|c'+1)) :
  Tok (N+1) fs m env (.call f ps) c (M0 m R F):=by
 obtain⟨q,c1⟩:=R;cases hl with
 | err e s5 s6 s7 e1 e2 e3 e4=>cases e1;exact⟨by exact bB [.lp 14<|e2],e4,e3⟩
 | ok O e1 e2 e3 e4 e5=>
  refine cX λSD g1=>?_;cases e1;rw[cK]at e2;have ea:op2 .add (.int c1) (.int 1)=some (.fz<|.int ((c1+1:Nat) :Int)):=by rw[dO];rfl
  by_cases z:m<c1+1
  .refine g1 ?_;show Tok _ _ _ _ _ _ (if m<c1+1 then(.error bu,c1+1) else F O (c1+1))
   refine Er (if_pos z) ?_;have qz:bZ .gt (.int ((c1+1:Nat) :Int)) (.int m)=some true:=by rw[tq];exact Er (ak (by exact(Ln [m,c1] (.i (.p 1<|.n .x)<|.n<|.p 1 .y) [Gl (.p 1 .x)<|.p 1 .y] rfl z))) rfl
   exact⟨by exact bB [.lp 14<|e2,.v 4<|ea,.b 3<|qz],(show bu∈Dg by decide),Nat.le_succ_of_le e5⟩
  .refine g1 ?_;show Tok _ _ _ _ _ _ (if m<c1+1 then(.error bu,c1+1) else F O (c1+1))
   refine Er (if_neg z) ?_;have qz:bZ .gt (.int ((c1+1:Nat) :Int)) (.int m)=some false:=by rw[tq];exact Er (aA (by exact(λmvo24=>(Lf [c1,m] [Gl (.p 1 .x) .y,Gi (.p 1<|.n .y)<|.n<|.p 1 .x] rfl (bM.mp z) mvo24)))) rfl
   have h2:=hd O c1 e5 z e4 e3;rcases hF:F O (c1+1) with⟨r2,c2⟩;rw[hF]at h2;obtain⟨run2,vg2,up2⟩:=h2;exact⟨by exact bB [.lp 14<|e2,.v 4<|ea,.b 3<|qz,.cp 2<|(Ij N f (.str dQ) (.tuple<|encs ps) (.fz<|hW fs) (.fz<|.dict env) (cL (c1+1) m) .no (.own<|.list O) .no .no .no fs .no),.d 0<|(CU hg),.v 2<|(Dw (O:=O) nd (hn.trans e4.symm) h6),.c 0<|run2],vg2,af e5<|af (rA _) up2⟩
noncomputable def En(H m n:Nat)(t:T)(c:Nat) :Prop:=ht t+(H+1)*(m+1 - c)<=n
theorem En.sub{H m n c c':Nat}{t u:T}(h:En H m (n+1) t c)(hu:ht u+1<=ht t)(hc:c<=c') :En H m n u c':=by unfold En at *;have:(H+1)*(m+1 - c')<=(H+1)*(m+1 - c):=Nat.mul_le_mul_left _ (by omega);omega
theorem En.call{H m n c c':Nat}{t u:T}(h:En H m (n+1) t c)(hu:ht u<=H)(hc:c<=c')(hm:¬m<c'+1) :En H m n u (c'+1):=by
 unfold En at *;have h1:(H+1)*(m+1 - c')<=(H+1)*(m+1 - c):=Nat.mul_le_mul_left _ (by omega);have h2:m+1 - c'=(m+1 - (c'+1))+1:=by omega
 rw[h2,Nat.mul_add,Nat.mul_one]at h1;have:=wj t;omega
theorem tO{H m:Nat}(pw:PW fs H) :∀n t env c j ns r,Wf (ar fs) ns r t->MG ns env->En H m n t c->m<=c+j->Tok (n+61) fs m env t c (sv m (cl fs m j) env t c):=by intro n;induction n with
 | zero=>intro t env c j ns r _ _ h;exact absurd (af (wj t)<|af (aq _ _) h) (by decide)
 | succ n ih=>intro t env c j ns r hb hv he hj;cases r with
  | zero=>exact hb.elim
  | succ r=>
   have lp:∀{ps:List T}{a1:Slot},ps.length<=8->(∀t∈ps,Wf (ar fs) ns r t)->(∀u∈ps,ht u+1<=ht t)->pP (n+61) fs m env a1 .no .no .no [] .no .no ps c (gZ (svs m (cl fs m j) env ps) c):=λ{ps a1} h8 hp hh=>by rw[jg];exact qD (n+61) fs m c env a1 .no .no .no (sv m (cl fs m j) env) ps [] c .no .no (λu hu c' hc=>ih u env c' j ns r (hp u hu) hv (he.sub (hh u hu) hc)<|af hj<|ey hc j) (aQ _) (by rw[dN,aX];exact af h8 (by decide))
   cases t with
   | val d=>exact Nk (n+61) fs m env c d hb
   | nam x=>
    refine aR (hv x hb) λv Q=>?_;show Tok _ _ _ _ _ _ (.ok<|lk env x,c)
    have:lk env x=v:=by unfold lk;refine Er Q.1 ?_;rfl
    exact Er this<|Nm (n+61) fs m env c x v Q.1 Q.2
   | ref x=>exact Nl (n+61) fs m env c x hb
   | iff ps=>refine cX λSD g=>?_;refine m5 (B3 hb.1) λa b e q=>?_;subst q;refine g ?_;have go:∀u∈ [a,b,e], ∀c',c<=c'->Tok (n+61) fs m env u c' (sv m (cl fs m j) env u c'):=λu hu c' hc=>ih u env c' j ns r (hb.2 u hu) hv (he.sub (by show ht u+1<=1+hts [a,b,e];rw[cU];exact aG (kJ hu) 1) hc)<|af hj<|ey hc j;exact Nn (n+61) fs m env c a b e _ (λc' x=>eH x (sv m (cl fs m j) env e c')<|sv m (cl fs m j) env b c') (go a (by simp) c<|aQ _) (go b (by simp))<|go e (by simp)
   | doo op ps=>
    have hl:=lp (a1:=.fz<|cz<|.doo op ps) (jK hb.1.2) hb.2 λu hu=>by show ht u+1<=1+hts ps;rw[cU];exact aG (kJ hu) 1
    exact Qd (n+61) fs m env c op ps _ (dn op) hl λO j0_ hlen hvs=>⟨B5 (n+1) hb.1.1 (hlen▸hb.1.2) hvs,(yj hb.1.1 (hlen▸hb.1.2) hvs).e⟩
   | call f ps=>
    have fo:=pw.at hb.1;have hl:=lp (a1:=.fz<|cz<|.call f ps) (af fo.k6 (by decide)) hb.2 λu hu=>by show ht u+1<=1+hts ps;rw[cU];exact aG (kJ hu) 1
    refine JL (n+61) fs m env c f ps _ (cl fs m j f) (fnOf fs f) fo.find hl fo.nd (fo.len▸fo.k6) fo.len λO c' hc hm hlen hvs=>?_;cases j with
    | zero=>exact absurd (aL hj<|eF hc) hm
    | succ j=>exact ih _ _ _ j _ _ fo.ok (oq (fo.len.trans hlen.symm) hvs) (he.call (Wf.small pw.a6 _ _ fo.ok).2 hc hm)<|af hj (by rw[Nat.add_succ,Nat.succ_add];exact dh<|ey hc j)
noncomputable abbrev cM:Str:=⟨[108,111,111,107].toArray⟩
abbrev mS(F:Env)(m c:Nat)(ts O:Sb) :List Slot:=[.own<|.dict F,.no,.no,.no,.fz<|.int m,.fz<|.int c,.own<|.list ts,.own<|.list O]
abbrev tk(w:Str)(e:D)(h:Env) :D:=.tuple [.str w,e,.dict h]
abbrev mR(F:Env)(m c:Nat)(ts O:Sb) :Option (Se Rv×List Slot):=some (.ok<|.fz .none,mS F m c ts O)
def fD(fs:List lJ) :Env:=fs.map λg=>(.str g.1,.tuple [eP g.2.1,cz g.2.2])
theorem LJ{x:Str}(h:x∉SK.map (·.1)) :Px (fD SK) x:=λp hp=>by obtain⟨g,hg,rfl⟩:=aH.mp hp;intro e;cases e;exact h<|aH.mpr ⟨g,hg,rfl⟩
theorem v4(N:Nat)(a5 a6:Slot) :∀fs SK s7 s8 s9,((SK++fs).map (·.1)).Nodup->SK.length+fs.length<=100000->
  dJ ⟨P.glob,cF P N,[1,2,3],false,bT P⟩ [.own<|.dict<|fD SK,.no,.no,.no,.no,.no,.no,.no,a5,a6,s7,s8,s9,.no] (.tup [10,11,12]) GQ [10,11,12] (fs.map j6)=some (.ok .next,[.own<|.dict<|fD<|SK++fs,.no,.no,.no,.no,.no,.no,.no,a5,a6,.no,.no,.no,.no]):=by
 intro fs;induction fs with
 | nil=>exact @λSK s7 s8 s9 j0_ j1_=>by refine Er aZ ?_;rw[b4,aI];rfl
 | cons g fs IH=>
  intro SK s7 s8 s9 nd hl;have e:SK++g::fs=(SK++[g])++fs:=by rw[ah];rfl
  have hl:=hl;have ih:=IH (SK++[g]) (vK g.1) (.fz<|eP g.2.1) (.fz<|cz g.2.2) (e▸nd) (by refine Er aj ?_;show SK.length+1+fs.length<=100000;exact(Ln [SK.length,fs.length] (.w (.a (.p 1 .x) .y)<|.c 100000) [Gl (.a .x<|.p 1 .y)<|.c 100000] rfl ‹SK.length+(g::fs).length<=(100000:Nat)›));rw[<- e]at ih;have hx:g.1∉SK.map (·.1):=λhm=>by rw[aY,ay,gS]at nd;exact nd.2.2 g.1 hm g.1 aa rfl
  have G:AW (.dict<|fD SK) (.str g.1) (.tuple [eP g.2.1,cz g.2.2])=some (.dict<|fD<|SK++[g]):=by
   show(if (fD SK).length<Sz then some (PyData.dict<|f8 (fD SK) g.1 _) else none)=_
   refine Er (if_pos (by unfold fD;rw[ai];show SK.length<16777216;omega)) ?_;unfold f8;refine Er (l5<|LJ hx) ?_;unfold fD;refine Er aY ?_;rfl
  exact Er ay<|gI [.d 0<|G,.lp 0<|ih]
theorem BN(N:Nat)(fs:List lJ)(m:Nat)(nd:(fs.map (·.1)).Nodup)(hl:fs.length<=100000) :
  cF P (N+1) 51 [.no,.no,.no,.no,.no,.no,.no,.no,.fz<|hW fs,.fz<|.int m]=mR (fD fs) m 0 [] []:=by
 have h:=v4 N (.fz<|hW fs) (.fz<|.int m) fs [] .no .no .no nd (by rw[dN,aX];exact hl);exact bB [.lp 2<|h]
theorem uV(N:Nat)(F:Env)(m c:Nat)(ts us:Sb)(ps:Sd)(b:D)(ws O:D)(SN:Env)(hz:pI .dzip [.tuple<|ps.map .str,ws]=some (.own<|.dict SN))(hl:ts.length<Sz) :
  cF P (N+1) 52 (mS F m c ts us++[.fz<|eP ps,.fz b,.fz ws])=mR F m c (ts++[tk cM b SN]) us:=
 bB [.v 0<|hz,.t 0 (show decide (ts.length<Sz)=true by simp only[hl,dL])]
theorem jM(us:Sb)(v:D) :Bj (.list<|us++[v])=some (.tuple [.list us,v]):=by
 show(match (us++[v]).getLast? with | some d=>some (PyData.tuple [.list (us++[v]).dropLast,d]) | none=>none)=_
 rw[List.getLast?_append,List.dropLast_concat];rfl
theorem vv(N:Nat)(F:Env)(m c:Nat)(ts O:Sb)(a5:Slot) :∀rs SK SJ s7,SJ.length=rs.length->SK.length+rs.length<=1000->
  dJ ⟨P.glob,cF P N,[0,1,2,3,4,5,6,7],false,bT P⟩ (mS F m c ts (O++rs.reverse)++[a5,.own<|.list SK,s7,.no]) (.one 10) AK [10] SJ=some (.ok .next,mS F m c ts O++[a5,.own<|.list<|SK++rs,.no,.no]):=by
 intro rs;induction rs with
 | nil=>intro SK SJ s7 hi _;refine Er (List.length_eq_zero_iff.mp hi) ?_;rw[b4,aI,List.reverse_nil,aI];rfl
 | cons r rs IH=>intro SK SJ s7 hi hl;cases SJ with
  | nil=>exact nomatch hi
  | cons i SJ=>
   have hl:=hl;have ih:=IH (SK++[r]) SJ (.fz i) (be hi) (by refine Er aj ?_;show SK.length+1+rs.length<=1000;exact(Ln [SK.length,rs.length] (.w (.a (.p 1 .x) .y)<|.c 1000) [Gl (.a .x<|.p 1 .y)<|.c 1000] rfl ‹SK.length+(r::rs).length<=(1000:Nat)›));rw[ah]at ih;have hp:Bj (.list<|O++(r::rs).reverse)=some (.tuple [.list<|O++rs.reverse,r]):=by refine Er rC ?_;rw[<- ah];exact jM _ r
   have G:SK.length<Sz:=by show SK.length<16777216;omega
   generalize O++(r::rs).reverse=S at hp |-;exact gI [.d 0<|hp,.t 0 (show decide (SK.length<Sz)=true by simp only[G,dL]),.lp 0<|ih]
theorem tS(N:Nat)(F:Env)(m c:Nat)(ts O ws:Sb)(hl:ws.length<=1000) :cF P (N+1) 54 (mS F m c ts (O++ws)++[.fz<|.int ws.length])=some (.ok<|.fz<|.list ws,mS F m c ts O):=by
 obtain⟨rs,rfl⟩ :∃rs:Sb,ws=rs.reverse:=⟨ws.reverse,by rw[List.reverse_reverse]⟩
 rw[eN]at hl |-;have h:=vv N F m c ts O (.fz<|.int rs.length) rs [] ((List.range rs.length).map λ(k:Nat)=>PyData.int<|0+k) .no (by rw[ai];exact Er aO rfl) (by refine Er dN ?_;rw[aX];exact hl);rw[cK]at h;have hr:di .range [.int rs.length]=some ((List.range rs.length).map λ(k:Nat)=>PyData.int<|0+k):=ek rs.length hl;generalize O++rs.reverse=S at h |-;generalize hk:(rs.length:Int)=k at h hr |-;exact bB [.l 0<|hr,.lp 0<|h]
theorem refuse_eq(N:Nat){w:Str}(h:w∈fy) :cF P (N+1) 2 [vK w]=some (.error w,[]):=by
 simp only[am,bc,fh]at h;rcases h with rfl | rfl | rfl | rfl | rfl | rfl
 .exact bB []
 .exact bB []
 .exact bB []
 .exact bB []
 .exact bB []
 .exact bB []
abbrev eI(x y z:D) :D:=.tuple [.str iY,x,y,z]
abbrev mE(e:Str)(F:Env)(m c:Nat)(ts O:Sb) :Option (Se Rv×List Slot):=some (.error e,mS F m c ts O)
section
variable (N:Nat)(F:Env)(m c:Nat)(ts us:Sb)(h:Env)
theorem BU(d:D)(hu:us.length<Sz) :cF P (N+1) 53 (mS F m c ts us++[.fz<|cz<|.val d,.fz<|.dict h])=mR F m c ts (us++[d]):=by exact bB [.t 4 (show decide (us.length<Sz)=true by simp only[hu,dL])]
theorem BW(x:Str)(v:D)(e:bU h x=some v)(hu:us.length<Sz) :cF P (N+1) 53 (mS F m c ts us++[.fz<|cz<|.nam x,.fz<|.dict h])=mR F m c ts (us++[v]):=by have e:jE (.dict h) (.str x)=some v:=e;exact bB [.d 6<|e,.t 0 (show decide (us.length<Sz)=true by simp only[hu,dL])]
theorem BV{w:Str}(hw:w∈fy) :cF P (N+2) 53 (mS F m c ts us++[.fz<|cz<|.ref w,.fz<|.dict h])=mE w F m c ts us:=by have e:=refuse_eq N hw;exact bB [.c 8<|e]
theorem BY(x y z:D)(ht:ts.length+1<Sz) :cF P (N+1) 53 (mS F m c ts us++[.fz<|eI x y z,.fz<|.dict h])=mR F m c (ts++[tk iY (eI x y z) h,tk cM x h]) us:=by
 have h2:(ts++[tk iY (eI x y z) h]).length<Sz:=by exact Er aj ht
 have e3:ts++[tk iY (eI x y z) h,tk cM x h]=ts++[tk iY (eI x y z) h]++[tk cM x h]:=by rw[ah];rfl
 exact Er e3<|bB [.t 9 (show decide (ts.length<Sz)=true by simp only[(Nat.lt_of_succ_lt ht),dL]),.t 1 (show decide ((ts++[PyData.tuple [PyData.str iY,eI x y z,PyData.dict h]]).length<Sz)=true by simp only[h2,dL])]
theorem qK(a5 a7:Slot) :∀ps ts s8,ts.length+ps.length<Sz->
  dJ ⟨P.glob,cF P N,[0,1,2,3,4,5,6,7],false,bT P⟩ (mS F m c ts us++[a5,.fz<|.dict h,a7,s8,.no]) (.one 11) IX [11] ps=some (.ok .next,mS F m c (ts++ps.map λp=>tk cM p h) us++[a5,.fz<|.dict h,a7,.no,.no]):=by
 intro ps;induction ps with
 | nil=>exact @λts s8 j0_=>by rw[b4,aZ,aI];rfl
 | cons p ps IH=>
  intro ts s8 hl;have hl:=hl;have ih:=IH (ts++[tk cM p h]) (.fz p) (by refine Er aj ?_;show ts.length+1+ps.length<Sz;exact(Ln [ts.length,ps.length] (.w (.p 1<|.a (.p 1 .x) .y)<|.c 16777216) [Gl (.p 1<|.a .x<|.p 1 .y)<|.c 16777216] rfl ‹ts.length+(p::ps).length<Sz›));rw[ah]at ih;have h1:ts.length<Sz:=by omega
  exact Er ay<|gI [.t 0 (show decide (ts.length<Sz)=true by simp only[h1,dL]),.lp 0<|ih]
theorem Gh(op:Str)(ps:List T)(ht:ts.length+1+ps.length<Sz) :cF P (N+1) 53 (mS F m c ts us++[.fz<|cz<|.doo op ps,.fz<|.dict h])=mR F m c (ts++[tk jX (cz<|.doo op ps) h]++(encs ps).reverse.map λp=>tk cM p h) us:=by
 have h1:ts.length<Sz:=by omega
 have hl:=qK N F m c us h (.fz<|cz<|.doo op ps) (vK jX) (encs ps).reverse (ts++[tk jX (cz<|.doo op ps) h]) .no (by refine Er aj ?_;refine Er eN ?_;rw[eM];exact ht);have hi:di .rev [.tuple<|encs ps]=some (encs ps).reverse:=rfl;generalize (encs ps).reverse=rs at hl hi |-;exact bB [.t 9 (show decide (ts.length<Sz)=true by simp only[h1,dL]),.l 1<|hi,.lp 0<|hl]
theorem y5(f:Str)(ps:List T)(ht:ts.length+1+ps.length<Sz) :cF P (N+1) 53 (mS F m c ts us++[.fz<|cz<|.call f ps,.fz<|.dict h])=mR F m c (ts++[tk dQ (cz<|.call f ps) h]++(encs ps).reverse.map λp=>tk cM p h) us:=by
 have h1:ts.length<Sz:=by omega
 have hl:=qK N F m c us h (.fz<|cz<|.call f ps) (vK dQ) (encs ps).reverse (ts++[tk dQ (cz<|.call f ps) h]) .no (by refine Er aj ?_;refine Er eN ?_;rw[eM];exact ht);have hi:di .rev [.tuple<|encs ps]=some (encs ps).reverse:=rfl;generalize (encs ps).reverse=rs at hl hi |-;exact bB [.t 9 (show decide (ts.length<Sz)=true by simp only[h1,dL]),.l 1<|hi,.lp 0<|hl]
theorem z7(x y z:D)(s:Sb) :cF P (N+1) 55 (mS F m c ts (us++[.tuple s])++[.fz<|eI x y z,.fz<|.dict h])=mE aS F m c ts us:=by have hp:=jM us<|.tuple s;generalize us++[.tuple s]=S at hp |-;exact bB [.d 0<|hp]
theorem DO(x y z:D)(ht:ts.length<Sz) :cF P (N+1) 55 (mS F m c ts (us++[.int 0])++[.fz<|eI x y z,.fz<|.dict h])=mR F m c (ts++[tk cM z h]) us:=by have hp:=jM us<|.int 0;generalize us++[.int 0]=S at hp |-;exact bB [.d 0<|hp,.t 5 (show decide (ts.length<Sz)=true by simp only[ht,dL])]
theorem DN(x y z:D)(i:Int)(hi:i≠0)(ht:ts.length<Sz) :cF P (N+1) 55 (mS F m c ts (us++[.int i])++[.fz<|eI x y z,.fz<|.dict h])=mR F m c (ts++[tk cM y h]) us:=by
 have hp:=jM us<|.int i;have q:bZ .eq (.int i) (.int 0)=some false:=by rw[j9,aA hi]
 generalize us++[.int i]=S at hp |-;exact bB [.d 0<|hp,.b 2<|q,.t 2 (show decide (ts.length<Sz)=true by simp only[ht,dL])]
theorem Il(f:Str)(ws:Sb)(hm:m<c+1) :cF P (N+1) 56 (mS F m c ts us++[vK f,.fz<|.list ws])=mE bu F m (c+1) ts us:=by
 have ea:op2 .add (.int c) (.int 1)=some (.fz<|.int ((c+1:Nat) :Int)):=by rw[dO];rfl
 have qz:bZ .gt (.int ((c+1:Nat) :Int)) (.int m)=some true:=by rw[tq,ak (by exact(Ln [m,c] (.i (.p 1<|.n .x)<|.n<|.p 1 .y) [Gl (.p 1 .x)<|.p 1 .y] rfl hm))]
 exact bB [.v 0<|ea,.b 0<|qz]
theorem DQ(f:Str)(ws:Sb)(g:lJ)(hm:¬m<c+1)(hg:bU F f=some (.tuple [eP g.2.1,cz g.2.2]))(nd:g.2.1.Nodup)(hl:g.2.1.length=ws.length)(h6:g.2.1.length<=6)(ht:ts.length<Sz) :
  cF P (N+2) 56 (mS F m c ts us++[vK f,.fz<|.list ws])=mR F m (c+1) (ts++[tk cM (cz g.2.2)<|kv g.2.1 ws]) us:=by
 have ea:op2 .add (.int c) (.int 1)=some (.fz<|.int ((c+1:Nat) :Int)):=by rw[dO];rfl
 have qz:bZ .gt (.int ((c+1:Nat) :Int)) (.int m)=some false:=by rw[tq];exact Er (aA (by exact(λmvo17=>(Lf [c,m] [Gl (.p 1 .x) .y,Gi (.p 1<|.n .y)<|.n<|.p 1 .x] rfl (bM.mp hm) mvo17)))) rfl
 exact bB [.v 0<|ea,.b 0<|qz,.d 1<|hg,.c 0<|(uV N F m (c+1) ts us g.2.1 (cz g.2.2) (.list ws) (.list ws) (kv g.2.1 ws) (Dw nd hl h6) ht)]
end
section
variable (N:Nat)(F:Env)(m c:Nat)(ts us:Sb)(h:Env)
theorem lU(e:D)(c':Nat)(ts' us':Sb)(r:Se Rv)(hr:r = .ok (.fz .none)\/ ∃x,r = .error x)(H:cF P N 53 (mS F m c ts us++[.fz e,.fz<|.dict h])=some (r,mS F m c' ts' us')) :cF P (N+1) 57 (mS F m c (ts++[tk cM e h]) us)=some (r,mS F m c' ts' us'):=by
 have hp:=jM ts<|tk cM e h;generalize ts++[tk cM e h]=S at hp |-;rcases hr with rfl | ⟨x,rfl⟩
 .exact bB [.d 0<|hp,.c 2<|H]
 .exact bB [.d 0<|hp,.c 2<|H]
theorem AN(e:D)(c':Nat)(ts' us':Sb)(r:Se Rv)(hr:r = .ok (.fz .none)\/ ∃x,r = .error x)(H:cF P N 55 (mS F m c ts us++[.fz e,.fz<|.dict h])=some (r,mS F m c' ts' us')) :cF P (N+1) 57 (mS F m c (ts++[tk iY e h]) us)=some (r,mS F m c' ts' us'):=by
 have hp:=jM ts<|tk iY e h;generalize ts++[tk iY e h]=S at hp |-;rcases hr with rfl | ⟨x,rfl⟩
 .exact bB [.d 0<|hp,.c 4<|H]
 .exact bB [.d 0<|hp,.c 4<|H]
def RV(F:Env)(m c:Nat)(ts us:Sb)(r:Se D) :Option (Se Rv×List Slot):=match r with
 | .ok v=>mR F m c ts<|us++[v]
 | .error x=>mE x F m c ts us
abbrev eD(w op:Str)(ps:Sb) :D:=.tuple [.str w,.str op,.tuple ps]
theorem Nw(op:Str)(ps ws:Sb)(r:Se D)(hl:ws.length=ps.length)(h8:ws.length<=8)(hu:us.length<Sz)(H:cF P (N+1) 8 [vK op,.fz<|.list ws]=jD r) :
  cF P (N+2) 57 (mS F m c (ts++[tk jX (eD jX op ps) h])<|us++ws)=RV F m c ts us r:=by
 have hp:=jM ts<|tk jX (eD jX op ps) h;have ht:=tS N F m c ts us ws<|af h8 (by decide);have hk:pI .len [.tuple ps]=some (.fz<|.int (ws.length:Int)):=by refine Er hl ?_;rfl
 generalize ts++[tk jX (eD jX op ps) h]=S at hp |-;generalize us++ws=ys at ht |-;generalize (ws.length:Int)=k at ht hk;cases r with
 | ok v=>show _=mR F m c ts (us++[v]);exact bB [.d 0<|hp,.v 8<|hk,.c 0<|ht,.c 0<|H,.t 0 (show decide (us.length<Sz)=true by simp only[hu,dL])]
 | error x=>show _=mE x F m c ts us;exact bB [.d 0<|hp,.v 8<|hk,.c 0<|ht,.c 0<|H]
theorem xw(f:Str)(ps ws:Sb)(c':Nat)(ts' us':Sb)(r:Se Rv)(hr:r = .ok (.fz .none)\/ ∃x,r = .error x)(hl:ws.length=ps.length)(h8:ws.length<=8)
  (H:cF P (N+1) 56 (mS F m c ts us++[vK f,.fz<|.list ws])=some (r,mS F m c' ts' us')) :cF P (N+2) 57 (mS F m c (ts++[tk dQ (eD dQ f ps) h])<|us++ws)=some (r,mS F m c' ts' us'):=by
 have hp:=jM ts<|tk dQ (eD dQ f ps) h;have ht:=tS N F m c ts us ws<|af h8 (by decide);have hk:pI .len [.tuple ps]=some (.fz<|.int (ws.length:Int)):=by refine Er hl ?_;rfl
 generalize ts++[tk dQ (eD dQ f ps) h]=S at hp |-;generalize us++ws=ys at ht |-;generalize (ws.length:Int)=k at ht hk;rcases hr with rfl | ⟨x,rfl⟩
 .exact bB [.d 0<|hp,.v 8<|hk,.c 0<|ht,.c 0<|H]
 .exact bB [.d 0<|hp,.v 8<|hk,.c 0<|ht,.c 0<|H]
end
noncomputable abbrev Nc:Ex:=.cmp .nel (.pl<|.var 9)<|.list []
abbrev rF(a0 a1 a2:Slot)(F:Env)(m c:Nat)(ts O:Sb) :Mv.Fm:=[a0,a1,a2,.own<|.dict F,.no,.no,.no,.fz<|.int m,.fz<|.int c,.own<|.list ts,.own<|.list O]
abbrev O7(N:Nat) :gR:=(ds N)
section
variable (N:Nat)(a0 a1 a2:Slot)(F:Env)(m c:Nat)(ts us:Sb)
theorem EE(k:Nat) :pY (O7 N) (rF a0 a1 a2 F m c [] us) Nc yy [] (k+1)=some (.ok .next,rF a0 a1 a2 F m c [] us):=by exact Na []
theorem BB(t:D) :bZ .nel (.list<|ts++[t]) (.list [])=some true:=by
 show some (!(ts++[t]).isEmpty)=_
 cases ts <;> rfl
theorem ED(t:D)(k c':Nat)(ts' us':Sb)(R:dc dU)(H:cF P N 57 (mS F m c (ts++[t]) us)=mR F m c' ts' us')(h:pY (O7 N) (rF a0 a1 a2 F m c' ts' us') Nc yy [] k=R)(hR:∃x,R=some x) :
  pY (O7 N) (rF a0 a1 a2 F m c (ts++[t]) us) Nc yy [] (k+1)=R:=by
 have hn:=BB ts t;obtain⟨x,rfl⟩:=hR;generalize ts++[t]=S at H hn |-;exact Na [.b 0<|hn,.c 1<|H,.lp 0<|h]
theorem JB(t:D)(k c':Nat)(ts' us':Sb)(e:Str)(H:cF P N 57 (mS F m c (ts++[t]) us)=mE e F m c' ts' us') :
  pY (O7 N) (rF a0 a1 a2 F m c (ts++[t]) us) Nc yy [] (k+1)=some (.error e,rF a0 a1 a2 F m c' ts' us'):=by
 have hn:=BB ts t;generalize ts++[t]=S at H hn |-;exact Na [.b 0<|hn,.c 1<|H]
end
structure Mc where
 K:Nat
 a0:Slot
 a1:Slot
 a2:Slot
 F:Env
 m:Nat
abbrev Mc.wh(M:Mc)(c:Nat)(ts us:Sb)(k:Nat) :dc dU:=pY (O7<|M.K+62) (rF M.a0 M.a1 M.a2 M.F M.m c ts us) Nc yy [] k
noncomputable def Runs(M:Mc)(c:Nat)(ts us:Sb)(c':Nat)(ts' us':Sb) :Prop:= ∀k x,M.wh c' ts' us' k=some x-> ∃k',M.wh c ts us k'=some x
noncomputable def mI(M:Mc)(c:Nat)(ts us:Sb)(e:Str) :Prop:= ∃k Y,M.wh c ts us k=some (.error e,Y)/\ ∃c' ts' us',Y=rF M.a0 M.a1 M.a2 M.F M.m c' ts' us'
section
variable {M:Mc}{c c1 c2:Nat}{ts ts1 ts2 us us1 us2:Sb}{e:Str}
theorem Runs.trans(h:Runs M c ts us c1 ts1 us1)(g:Runs M c1 ts1 us1 c2 ts2 us2) :Runs M c ts us c2 ts2 us2:=λk x hx=>aR (g k x hx) λk' q=>h k' x q
theorem Runs.fails(h:Runs M c ts us c1 ts1 us1)(g:mI M c1 ts1 us1 e) :mI M c ts us e:=kL g λk Y q=>aR (h k _ q.1) λk' z=>⟨k',Y,z,q.2⟩
theorem Runs.one{t:D}(H:cF P (M.K+62) 57 (mS M.F M.m c (ts++[t]) us)=mR M.F M.m c1 ts1 us1) :Runs M c (ts++[t]) us c1 ts1 us1:=λk x hx=>⟨k+1,ED _ _ _ _ _ _ _ _ _ t k c1 ts1 us1 _ H hx ⟨x,rfl⟩⟩
theorem mI.one{t:D}(H:cF P (M.K+62) 57 (mS M.F M.m c (ts++[t]) us)=mE e M.F M.m c1 ts1 us1) :mI M c (ts++[t]) us e:=⟨1,_,JB _ _ _ _ _ _ _ _ _ t 0 c1 ts1 us1 e H,_,_,_,rfl⟩
end
inductive kY(M:Mc)(c:Nat)(ts us tt:Sb)(R:Se Sb×Nat) :Prop
 | ok (O:Sb) :R.1 = .ok O->Runs M c (ts++tt) us R.2 ts (us++O)->kY M c ts us tt R
 | err (e:Str) :R.1 = .error e->mI M c (ts++tt) us e->kY M c ts us tt R
noncomputable def qe(R:Rs) :Se Sb×Nat:=match R with
 | (.ok v,c)=>(.ok [v],c)
 | (.error e,c)=>(.error e,c)
noncomputable abbrev Rm(A:Nat)(ts us:Sb) :Prop:=ts.length+A<=1000000/\us.length+A<=1000000
noncomputable abbrev Ah(M:Mc)(A:Nat)(env:Env)(t:T)(c:Nat)(R:Rs) :Prop:= ∀ts us:Sb,Rm A ts us->kY M c ts us [tk cM (cz t) env] (qe R)
abbrev Ak(ps:List T)(env:Env) :Sb:=(encs ps).reverse.map λp=>tk cM p env
theorem BZ(p:T)(ps:List T)(env:Env) :Ak (p::ps) env=Ak ps env++[tk cM (cz p) env]:=by
 show((cz p::encs ps).reverse.map λp=>tk cM p env)=_
 rw[rC,aY];rfl
theorem Gm(ps:List T)(env:Env) :(Ak ps env).length=ps.length:=by rw[ai,eN,eM]
theorem Rm.up{A k:Nat}(h:Rm (A+k) ts us)(hx:S.length<=k)(hy:ys.length<=k) :Rm A (ts++S) (us++ys):=
 ⟨by rw[aj,dv,cU S.length];exact af (aG (aG hx A) _) h.1,by rw[aj,dv,cU ys.length];exact af (aG (aG hy A) _) h.2⟩
theorem AT(f:T->Ms) :∀ps c ts us,(∀p∈ps, ∀c',c<=c'->c'<=(f p c').2/\Ah M A env p c' (f p c'))->Rm (A+ps.length) ts us->c<=(gZ (ps.map f) c).2/\kY M c ts us (Ak ps env) (gZ (ps.map f) c):=by intro ps;induction ps with
 | nil=>exact λc ts us j0_ j1_=>⟨aQ _,.ok [] rfl λk x hx=>⟨k,by rw[aI]at hx;show M.wh c (ts++[]) us k=_;rw[aI];exact hx⟩⟩
 | cons p ps ih=>
  intro c ts us H hr;have hr1:Rm A (ts++Ak ps env) us:=by have:=hr.up (S:=Ak ps env) (ys:=[]) (by rw[Gm];exact rA _)<|ba _;rw[aI]at this;exact this
  obtain⟨up,SC⟩:=H p aa c<|aQ _;have SC:=SC (ts++Ak ps env) us hr1;rw[ay,fC,BZ];rcases hf:f p c with⟨r,c1⟩;rw[hf]at up SC;have up:c<=c1:=up;cases r with
  | error e=>cases SC with
   | ok O e1=>cases e1
   | err e' e1 h=>cases e1;exact⟨up,.err e rfl (by rw[<- ah];exact h)⟩
  | ok v=>cases SC with
   | err e' e1=>exact LL e1
   | ok O e1 h=>
    obtain rfl:=ky e1;have hr2:Rm (A+ps.length) ts (us++[v]):=by have:=Rm.up (A:=A+ps.length) (k:=1) (S:=[]) (ys:=[v]) hr (ba _)<|aQ _;rw[aI]at this;exact this
    obtain⟨up2,S2⟩:=ih c1 ts (us++[v]) (λq hq c' hc=>H q (ac _ hq) c'<|af up hc) hr2;dsimp only;rcases hg:gZ (ps.map f) c1 with⟨r2,c2⟩;rw[hg]at up2 S2;cases S2 with
    | ok ws e2 h2=>cases e2;refine⟨af up up2,.ok (v::ws) rfl ?_⟩;rw[ah]at h2;rw[<- ah];exact h.trans h2
    | err e e2 h2=>cases e2;exact⟨af up up2,.err e rfl (by rw[<- ah];exact h.fails h2)⟩
theorem LK(h:(fs.find? λg=>decide<|g.1=f)=some g) :bU (fD fs) f=some (.tuple [eP g.2.1,cz g.2.2]):=by induction fs with
 | nil=>cases h
 | cons a fs ih=>
  show(if a.1=f then some (PyData.tuple [eP a.2.1,cz a.2.2]) else bU (fD fs) f)=_
  rw[List.find?_cons]at h;by_cases q:a.1=f
  .rw[ak q]at h;cases h;rw[if_pos q]
  .rw[aA q]at h;rw[if_neg q];exact ih h
noncomputable def pk(b e:T) :Bool->T
 | true=>e
 | false=>b
noncomputable abbrev xM:Se Rv:=.ok<|.fz .none
section
variable {M:Mc}{c n:Nat}{env:Env}{ts us:Sb}
theorem Rm.sz{k:Nat}(h:Rm (k+9) ts us) :ts.length+9<Sz/\us.length+9<Sz:=⟨aL (af (aG (eJ 9 k) _) h.1) (by decide),aL (af (aG (eJ 9 k) _) h.2) (by decide)⟩
theorem t6{t:T}{v:D}(H:cF P (M.K+61) 53 (mS M.F M.m c ts us++[.fz<|cz t,.fz<|.dict env])=mR M.F M.m c ts (us++[v])) :kY M c ts us [tk cM (cz t) env] (.ok [v],c):=
 .ok [v] rfl (Runs.one<|lU (M.K+61) _ _ _ _ _ env _ c ts (us++[v]) xM (.inl rfl) H)
theorem Ff{a b e:T}{R:Rs}{F:Nat->Bool->Rs}(hr:Rm (9*n+9) ts us)(vg:Ju R.1)(up:c<=R.2)(ha:Ah M (9*n) env a c R)(hb:∀x c',c<=c'->Ah M (9*n) env (pk b e x) c' (F c' x)) :
  kY M c ts us [tk cM (cz<|.iff [a,b,e]) env] (qe<|MU R F):=by
 have l1:=aL (aG (by decide:1<=9) _) hr.sz.1;have s1:Runs M c (ts++[tk cM (cz<|.iff [a,b,e]) env]) us c (ts++[tk iY (cz<|.iff [a,b,e]) env]++[tk cM (cz a) env]) us:=by
  have e0:ts++[tk iY (cz<|.iff [a,b,e]) env,tk cM (cz a) env]=ts++[tk iY (cz<|.iff [a,b,e]) env]++[tk cM (cz a) env]:=by rw[ah];rfl
  have:=BY (M.K+60) M.F M.m c ts us env (cz a) (cz b) (cz e) l1;exact Runs.one<|lU (M.K+61) _ _ _ _ _ env _ c _ us xM (.inl rfl)<|e0▸this
 have SC:=ha (ts++[tk iY (cz<|.iff [a,b,e]) env]) us (by have:=Rm.up (A:=9*n) (k:=9) (S:=[tk iY (cz<|.iff [a,b,e]) env]) (ys:=[]) hr (by show 1<=9;decide)<|ba _;rw[aI]at this;exact this);have hr0:Rm (9*n) ts us:=⟨af (aG (aq _ _) _) hr.1,af (aG (aq _ _) _) hr.2⟩
 obtain⟨r,c1⟩:=R;have up:c<=c1:=up;cases r with
 | error x=>cases SC with
  | ok O e1=>cases e1
  | err x' e1 h=>cases e1;exact .err x rfl<|s1.fails h
 | ok v=>cases SC with
  | err x' e1=>cases e1
  | ok O e1 h=>
   cases e1;rcases Vg.k vg with⟨i,rfl,_⟩ | ⟨s,rfl,_⟩
   .have go:∀x:Bool,Runs M c1 (ts++[tk iY (cz<|.iff [a,b,e]) env]) (us++[.int i]) c1 (ts++[tk cM (cz<|pk b e x) env]) us->kY M c ts us [tk cM (cz<|.iff [a,b,e]) env] (qe<|F c1 x):=λx s3=>by
     have S2:=hb x c1 up ts us hr0;rcases hF:F c1 x with⟨r2,c2⟩;rw[hF]at S2;cases S2 with
     | ok ws e2 h2=>exact .ok ws e2<|((s1.trans h).trans s3).trans h2
     | err x' e2 h2=>exact .err x' e2<|((s1.trans h).trans s3).fails h2
    by_cases q:i=0
    .subst q;exact go true<|Runs.one<|AN (M.K+61) _ _ _ _ _ env _ c1 _ us xM (.inl rfl)<|DO (M.K+60) M.F M.m c1 ts us env (cz a) (cz b) (cz e)<|Nat.lt_of_succ_lt l1
    .have qs:dK (.int i) (.int 0)=false:=by unfold dK;rw[show qU (.int i) (.int 0)=some false from(ph i 0).trans<|congrArg some<|aA q];rfl
     show kY M c ts us _ (qe<|F c1<|dK (.int i)<|.int 0)
     rw[qs];exact go false<|Runs.one<|AN (M.K+61) _ _ _ _ _ env _ c1 _ us xM (.inl rfl)<|DN (M.K+60) M.F M.m c1 ts us env (cz a) (cz b) (cz e) i q<|Nat.lt_of_succ_lt l1
   .exact .err aS rfl ((s1.trans h).fails<|mI.one<|AN (M.K+61) _ _ _ _ _ env _ c1 ts us (.error aS) (.inr ⟨_,rfl⟩)<|z7 (M.K+60) M.F M.m c1 ts us env (cz a) (cz b) (cz e) s)
theorem J5{op:Str}{R:Se Sb×Nat}(hr:Rm (9*n+9) ts us)(h8:ps.length<=8)(SC:kY M c (ts++[tk jX (cz<|.doo op ps) env]) us (Ak ps env) R)
  (hd:∀O,R.1 = .ok O->O.length=ps.length/\cF P (M.K+61) 8 [vK op,.fz<|.list O]=jD (r O)) :kY M c ts us [tk cM (cz<|.doo op ps) env] (qe<|Jj R r):=by
 have s1:Runs M c (ts++[tk cM (cz<|.doo op ps) env]) us c (ts++[tk jX (cz<|.doo op ps) env]++Ak ps env) us:=
  Runs.one (lU (M.K+61) _ _ _ _ _ env _ c _ us xM (.inl rfl)<|Gh (M.K+60) M.F M.m c ts us env op ps<|aL (by rw[dv];exact aG (aG h8 1) _) hr.sz.1)
 obtain⟨q,c1⟩:=R;cases SC with
 | err x e1 h=>cases e1;exact .err x rfl<|s1.fails h
 | ok O e1 h=>
  cases e1;have key:=Nw (M.K+60) M.F M.m c1 ts us env op (encs ps) O (r O) (by rw[eM];exact(hd O rfl).1) (by rw[(hd O rfl).1];exact h8) (aL (aq _ _) hr.sz.2) (hd O rfl).2;show kY M c ts us _ (qe (r O,c1))
  cases hr:r O with
  | ok v=>rw[hr]at key;exact .ok [v] rfl<|(s1.trans h).trans<|Runs.one key
  | error x=>rw[hr]at key;exact .err x rfl<|(s1.trans h).fails<|mI.one key
theorem AU{f:Str}{ps:List T}{R:Se Sb×Nat}{F:Sb->Ms}{g:lJ}(hr:Rm (9*n+9) ts us)(h6:g.2.1.length<=6)(hn:g.2.1.length=ps.length)(nd:g.2.1.Nodup)(hg:bU M.F f=some (.tuple [eP g.2.1,cz g.2.2]))
  (SC:kY M c (ts++[tk dQ (cz<|.call f ps) env]) us (Ak ps env) R) (hd:∀O,R.1 = .ok O->O.length=ps.length/\(¬M.m<R.2+1->Ah M (9*n) (kv g.2.1 O) g.2.2 (R.2+1) (F O<|R.2+1))) :kY M c ts us [tk cM (cz<|.call f ps) env] (qe<|M0 M.m R F):=by
 have l8:ps.length<=8:=hn▸af h6 (by decide);have s1:Runs M c (ts++[tk cM (cz<|.call f ps) env]) us c (ts++[tk dQ (cz<|.call f ps) env]++Ak ps env) us:=
  Runs.one (lU (M.K+61) _ _ _ _ _ env _ c _ us xM (.inl rfl)<|y5 (M.K+60) M.F M.m c ts us env f ps<|aL (by rw[dv];exact aG (aG l8 1) _) hr.sz.1)
 have hr0:Rm (9*n) ts us:=⟨af (aG (aq _ _) _) hr.1,af (aG (aq _ _) _) hr.2⟩
 obtain⟨q,c1⟩:=R;cases SC with
 | err x e1 h=>cases e1;exact .err x rfl<|s1.fails h
 | ok O e1 h=>
  cases e1;obtain⟨hl,hd⟩:=hd O rfl;show kY M c ts us _ (qe (if M.m<c1+1 then(.error bu,c1+1) else F O (c1+1)))
  by_cases z:M.m<c1+1
  .rw[if_pos z];exact .err bu rfl<|(s1.trans h).fails<|mI.one<|xw (M.K+60) M.F M.m c1 ts us env f (encs ps) O (c1+1) ts us (.error bu) (.inr ⟨_,rfl⟩) (by rw[eM];exact hl) (hl▸l8)<|Il (M.K+60) M.F M.m c1 ts us f O z
  .rw[if_neg z];have key:=xw (M.K+60) M.F M.m c1 ts us env f (encs ps) O (c1+1) (ts++[tk cM (cz g.2.2)<|kv g.2.1 O]) us xM (.inl rfl) (by rw[eM];exact hl) (hl▸l8)<|DQ (M.K+59) M.F M.m c1 ts us f O g z hg nd (hn.trans hl.symm) h6<|aL (aq _ _) hr.sz.1;have S2:=hd z ts us hr0;rcases hF:F O (c1+1) with⟨r2,c2⟩;rw[hF]at S2;have s2:=(s1.trans h).trans<|Runs.one key;cases S2 with
   | ok ws e2 h2=>exact .ok ws e2<|s2.trans h2
   | err x' e2 h2=>exact .err x' e2<|s2.fails h2
end
theorem Fg{H m K:Nat}(pw:PW fs H) :∀n t env c j ns r,Wf (ar fs) ns r t->MG ns env->En H m n t c->m<=c+j->Ah ⟨K,a0,a1,a2,fD fs,m⟩ (9*n) env t c (sv m (cl fs m j) env t c):=by intro n;induction n with
 | zero=>intro t env c j ns r _ _ h;exact absurd (af (wj t)<|af (aq _ _) h) (by decide)
 | succ n ih=>intro t env c j ns r hb hv he hj ts us hr;have u0:us.length<Sz:=aL (aq _ _) (Rm.sz (k:=9*n) hr).2;cases r with
  | zero=>exact hb.elim
  | succ r=>
   have fU:∀u,Wf (ar fs) ns r u->ht u+1<=ht t-> ∀c',c<=c'->Tok (n+61) fs m env u c' (sv m (cl fs m j) env u c')/\Ah ⟨K,a0,a1,a2,fD fs,m⟩ (9*n) env u c' (sv m (cl fs m j) env u c'):=
    λu hu hh c' hc=>⟨tO pw n u env c' j ns r hu hv (he.sub hh hc)<|af hj<|ey hc j,ih u env c' j ns r hu hv (he.sub hh hc)<|af hj<|ey hc j⟩
   have lp:∀{ps:List T}{a1':Slot}{x:D},ps.length<=8->(∀t∈ps,Wf (ar fs) ns r t)->(∀u∈ps,ht u+1<=ht t)->pP (n+61) fs m env a1' .no .no .no [] .no .no ps c (gZ (svs m (cl fs m j) env ps) c)/\kY ⟨K,a0,a1,a2,fD fs,m⟩ c (ts++[x]) us (Ak ps env) (gZ (svs m (cl fs m j) env ps) c):=λ{ps a1' x} h8 hp hh=>by
    rw[jg];refine⟨qD (n+61) fs m c env a1' .no .no .no (sv m (cl fs m j) env) ps [] c .no .no (λu hu c' hc=>(fU u (hp u hu) (hh u hu) c' hc).1) (aQ _) (by rw[dN,aX];exact af h8 (by decide)),?_⟩;refine(AT (sv m (cl fs m j) env) ps c (ts++[x]) us (λu hu c' hc=>⟨(fU u (hp u hu) (hh u hu) c' hc).1.up,(fU u (hp u hu) (hh u hu) c' hc).2⟩) ⟨?_,?_⟩).2
    .rw[aj];exact af (by show ts.length+1+(9*n+ps.length)<=ts.length+(9*n+9);omega) hr.1
    .exact af (by show us.length+(9*n+ps.length)<=us.length+(9*n+9);omega) hr.2
   cases t with
   | val d=>exact t6<|BU (K+60) (fD fs) m c ts us env d u0
   | nam x=>
    refine aR (hv x hb) λv q=>?_;have:lk env x=v:=by unfold lk;rw[q.1];rfl
    show kY _ _ _ _ _ (.ok [lk env x],c)
    exact Er this<|t6 (t:=.nam x)<|BW (K+60) (fD fs) m c ts us env x v q.1 u0
   | ref x=>exact .err x rfl<|mI.one<|lU (K+61) _ _ _ _ _ env _ c ts us (.error x) (.inr ⟨_,rfl⟩)<|BV (K+59) (fD fs) m c ts us env hb
   | iff ps=>refine cX λSD g=>?_;refine m5 (B3 hb.1) λa b e Sv=>?_;subst Sv;refine g ?_;have go:∀u∈ [a,b,e], ∀c',c<=c'->_:=λu hu c' hc=>fU u (hb.2 u hu) (by show ht u+1<=1+hts [a,b,e];rw[cU];exact aG (kJ hu) 1) c' hc;have Q:=go a (by simp) c<|aQ _;exact Ff (n:=n) (F:=λc' x=>eH x (sv m (cl fs m j) env e c')<|sv m (cl fs m j) env b c') hr Q.1.vg Q.1.up Q.2 λx c' hc=>by cases x with
     | true=>exact(go e (by simp) c' hc).2
     | false=>exact(go b (by simp) c' hc).2
   | doo op ps=>
    have h8:=jK hb.1.2;have Q:=lp (a1':=.fz<|cz<|.doo op ps) (x:=tk jX (cz<|.doo op ps) env) h8 hb.2 λu hu=>by show ht u+1<=1+hts ps;rw[cU];exact aG (kJ hu) 1
    refine J5 (n:=n) hr h8 Q.2 λO e=>?_;cases Q.1 with
    | err x _ _ _ e1=>rw[e1]at e;exact on e
    | ok ws e1 _ e3 e4 _=>rw[e1]at e;obtain rfl:=ky e;exact⟨e4,yi (K+1) hb.1.1 (e4▸hb.1.2) e3⟩
   | call f ps=>
    have fo:=pw.at hb.1;have Q:=lp (a1':=.fz<|cz<|.call f ps) (x:=tk dQ (cz<|.call f ps) env) (af fo.k6 (by decide)) hb.2 λu hu=>by show ht u+1<=1+hts ps;rw[cU];exact aG (kJ hu) 1
    refine AU (n:=n) (g:=fnOf fs f) hr (fo.len▸fo.k6) fo.len fo.nd (LK fo.find) Q.2 λO e=>?_;cases Q.1 with
    | err x _ _ _ e1=>rw[e1]at e;exact on e
    | ok ws e1 _ e3 e4 up=>rw[e1]at e;obtain rfl:=ky e;refine⟨e4,λhm=>?_⟩;cases j with
     | zero=>exact absurd (aL hj<|eF up) hm
     | succ j=>exact ih _ _ _ j _ _ fo.ok (oq (fo.len.trans e4.symm) e3) (he.call (Wf.small pw.a6 _ _ fo.ok).2 up hm)<|af hj (by rw[Nat.add_succ,Nat.succ_add];exact dh<|ey up j)
theorem Kv(K:Nat){nm:Str}{ps:Sd}{b:T}{fs:List lJ}{m:Nat}{ins:Sb}(pw:PW ((nm,ps,b)::fs) 20)(hl:ps.length=ins.length)(hm:m<=9)(hi:∀v∈ins,Vg v) :
  cF P (K+63) 15 [.fz<|hW ((nm,ps,b)::fs),.fz<|.tuple ins,.fz<|.int m]=jD (sv m (cl ((nm,ps,b)::fs) m m) (kv ps ins) b 0).1:=by
 have o:=pw.fn (nm,ps,b) aa;have SC:=Fg (K:=K) (m:=m) (a0:=.fz<|hW ((nm,ps,b)::fs)) (a1:=.fz<|.tuple ins) (a2:=.fz<|.int m) pw 250 b (kv ps ins) 0 m ps 20 o.2.2 (oq hl hi) (by unfold En;have:ht b<=20:=(Wf.small pw.a6 _ _ o.2.2).2;omega) (eJ _ _) [] [] (by decide);have h1:=BN (K+61) ((nm,ps,b)::fs) m pw.nd pw.len;have h2:=uV (K+61) (fD ((nm,ps,b)::fs)) m 0 [] [] ps (cz b) (.tuple ins) (.tuple ins) (kv ps ins) (wT o.2.1 hl o.1) (by decide);rcases hR:sv m (cl ((nm,ps,b)::fs) m m) (kv ps ins) b 0 with⟨r,c1⟩;rw[hR]at SC;generalize fD ((nm,ps,b)::fs)=F at SC h1 h2;cases SC with
 | err e e1 h=>obtain⟨k,Y,h,c',ts',us',rfl⟩:=h;cases r with
  | ok v=>exact LL e1
  | error e'=>cases e1;have h:=vq _ _ h;exact bB [.c 0<|h1,.c 4<|h2,.lp 0<|h]
 | ok O e1 h=>cases r with
  | error e=>exact on e1
  | ok v=>obtain rfl:=ky e1;obtain⟨k,h⟩:=h 1 _<|EE (K+62) (.fz<|hW ((nm,ps,b)::fs)) (.fz<|.tuple ins) (.fz<|.int m) F m c1 [v] 0;have h:=vq _ _ h;exact bB [.c 0<|h1,.c 4<|h2,.lp 0<|h]
theorem yK(N:Nat)(V:Sb)(ih:∀d∈V,cF P N 19 [.fz d,.fz d]=IW true) :∀(ks:Sg)(s2:Slot),(∀k∈ks,k<V.length)->
  dJ (ds N) [.fz<|.tuple V,.fz<|.tuple V,s2] (.one 2) NF [2] (ks.map λ(k:Nat)=>.int<|0+k)=some (.ok .next,[.fz<|.tuple V,.fz<|.tuple V,.no]):=by
 intro ks;induction ks with
 | nil=>exact @λs2 j0_=>by refine Er aZ ?_;rw[b4];rfl
 | cons k ks IH=>intro s2 h;have q:=IH (.fz<|.int<|0+k) λj hj=>h j<|ac _ hj;obtain⟨d,e,m⟩:=eh (S:=V) (r:=0+(k:Int)) (Ln [k] (.i (.c 0)<|.a (.c 0)<|.n .x) [] rfl)<|Ln [k,V.length] (.i (.p 1<|.a (.c 0)<|.n .x)<|.n .y) [Gl (.p 1 .x) .y] rfl<|h k aa;refine Er ay ?_;generalize 0+(k:Int)=i at e q |-;exact gI [.d 0<|e,.d 0<|e,.c 0<|(ih d m),.lp 2<|q]
theorem FY(k:Int) :bZ .ne (.int k) (.int k)=some false:=by rw[pG,ph,ak rfl];rfl
theorem K6(h:wts V<=49) :V.length<=1000:=af (sC V)<|af h (by decide)
theorem xj:∀{V:Sb}{d:D},d∈V->goods V=true->gm d=true/\wt d<=wts V:=by intro V d;induction V generalizing d with
 | nil=>exact @λh j0_=>by cases h
 | cons e V ih=>
  intro h hg;have hg:(gm e&&goods V)=true:=hg;rw[az]at hg;rcases am.mp h with rfl | h
  .exact⟨hg.1,aq _ _⟩
  .have:=ih h hg.2;exact⟨this.1,af this.2<|eJ _ _⟩
theorem Fw:∀(N:Nat)(d:D),Vg d->wt d<=N->cF P N 19 [.fz d,.fz d]=IW true:=by intro N;induction N with
 | zero=>intro d _ h;exact absurd (af (rH d) h) (by decide)
 | succ N ih=>
  intro d hv hw;rcases hv.k with⟨i,rfl,_⟩ | ⟨V,rfl,hg,h49⟩
  .have q:bZ .eq (.int i) (.int i)=some true:=by rw[j9];exact Er (ak rfl) rfl
   exact bB [.b 9<|q]
  .have hw:1+wts V<=N+1:=hw;have lp:=yK N V (λd hd=>ih d (by have:=xj hd hg;exact⟨this.1,by exact(Ln [wt d,wts V] (.w .x<|.c 50) [Gl .y<|.c 49,Gl .x .y] rfl h49 (this).2)⟩) (by have:=(xj hd hg).2;omega)) (List.range V.length) .no λk hk=>aW.mp hk;have hr:di .range [.int V.length]=some ((List.range V.length).map λ(k:Nat)=>PyData.int<|0+k):=ek V.length<|K6 h49;have hn:=FY V.length;have hk:pI .len [.tuple V]=some (.fz<|.int (V.length:Int)):=rfl;generalize (V.length:Int)=k at hr hn hk;exact bB [.v 5<|hk,.v 0<|hk,.b 0<|hn,.v 1<|hk,.l 0<|hr,.lp 0<|lp]
theorem A6(N:Nat)(e:Str) :cF P (N+1) 19 [vK e,vK e]=IW true:=by have q:=NJ (x:=e) rfl;exact bB [.b 6<|q]
theorem Kz(N:Nat)(p i k:D)(r:Se D)(hg:Ju r)(h:cF P (N+1) 15 [.fz p,.fz i,.fz k]=jD r) :cF P (N+2) 28 [.fz p,.fz i,.fz k]=gK (eG r):=by cases r with
 | ok v=>exact bB [.c 0<|h]
 | error e=>
  have hg:e∈Dg:=hg;simp only[am,bc,fh]at hg;rcases hg with rfl | rfl | rfl | rfl | rfl | rfl | rfl
  .exact bB [.c 0<|h]
  .exact bB [.c 0<|h]
  .exact bB [.c 0<|h]
  .exact bB [.c 0<|h]
  .exact bB [.c 0<|h]
  .exact bB [.c 0<|h]
  .exact bB [.c 0<|h]
theorem Gg(N:Nat){b:T}{R:Se D×Nat}(nd:ps.Nodup)(hl:ps.length=ins.length)(h6:ps.length<=6)(h:cF P N 25 (IP ((nm,ps,b)::fs) b (kv ps ins) 0 m)=Np m R) :
  cF P (N+1) 26 [.fz<|hW ((nm,ps,b)::fs),.fz<|.tuple ins,.fz<|.int m]=gK (eG R.1):=by
 have hz:=wT nd hl h6;exact bB [.v 4<|hz,.c 0<|h]
inductive xg:Sp->Sb->Sb->Sb->Prop
 | nil:xg [] [] [] []
 | kn {bs:Sp} {ks ws O:Sb} {v:D} :xg bs ks ws O->xg (true::bs) (v::ks) ws (v::O)
 | un {bs:Sp} {ks ws O:Sb} {v:D} :xg bs ks ws O->xg (false::bs) ks (v::ws) (v::O)
inductive IF(A:Se Sb×Nat)(B:Nat->Se Sb×Nat)(r:Rs) :Prop
 | err {e:Str} {k1:Nat} :A=(.error e,k1)->r=(.error e,k1)->IF A B r
 | ok {ws:Sb} {k1 k2:Nat} {e:Str} :A=(.ok ws,k1)->B k1=(.error e,k2)->r=(.error e,k2)->IF A B r
inductive PR(A:Se Sb×Nat)(B:Nat->Se Sb×Nat)(bs:Sp)(kd:Sb)(r:Se Sb×Nat) :Prop
 | err {e:Str} {k1:Nat} :A=(.error e,k1)->r=(.error e,k1)->PR A B bs kd r
 | bad {ws:Sb} {k1 k2:Nat} {e:Str} :A=(.ok ws,k1)->B k1=(.error e,k2)->r=(.error e,k2)->PR A B bs kd r
 | ok {ws ws' O:Sb} {k1 k2:Nat} :A=(.ok ws,k1)->B k1=(.ok O,k2)->r=(.ok<|ws++ws',k2)->xg bs kd ws' O->PR A B bs kd r
theorem xn(a:Ms) :∀l k,gZ (l++[a]) k=match gZ l k with
  | (.error e,k)=>(.error e,k)
  | (.ok O,k)=>match a k with
   | (.error e,k)=>(.error e,k)
   | (.ok v,k)=>(.ok<|O++[v],k):=by
 intro l;induction l with
 | nil=>
  intro k;show gZ [a] k=match a k with
   | (.error e,k)=>(.error e,k)
   | (.ok v,k)=>(.ok<|[]++[v],k)
  rw[fC];rcases a k with⟨r,k1⟩;cases r <;> rfl
 | cons b l ih=>
  intro k;show gZ (b::(l++[a])) k=_
  rw[fC,fC];rcases b k with⟨r,k1⟩;cases r with
  | error e=>rfl
  | ok v=>dsimp only;rw[ih];rcases gZ l k1 with⟨r,k2⟩;cases r with
   | error e=>rfl
   | ok O=>dsimp only;rcases a k2 with⟨r,k3⟩;cases r <;> rfl
section
variable {c:C}{M:T->Ms}{M':R->Ms}
structure Sem(M':R->Ms) :Prop where
 val:∀d k,M' (.val d) k=(.ok d,k)
 ref:∀x k,M' (.ref x) k=(.error x,k)
 lst:∀ps k,M' (.doo b6 ps) k=Jj (gZ (ps.map M') k) (dn b6)
theorem Sem.vals(s:Sem M'){os:List R}(h:∀x∈os,x.opn=false)(k:Nat) :gZ (os.map M') k=(.ok<|os.map R.v,k):=by induction os with
 | nil=>rfl
 | cons x os ih=>have hx:=h x aa;have ih:=ih λy hy=>h y<|ac _ hy;cases x with
  | val d=>rw[ay,fC,s.val];show(match gZ (os.map M') k with | (.error e,c)=>_ | (.ok O,c)=>_)=_;rw[ih];rfl
  | _=>cases hx
noncomputable def M1:Lp->C
 | .ret _ c=>c
 | .next _ _ _ c=>c
theorem Aa:∀gs ks os o c0,(∀g∈gs, ∀c,c <+:(g.1 c).2)->c0 <+:M1 (cN ks os o gs c0):=by intro gs;induction gs with
 | nil=>intro ks os o c0 _;exact iv _
 | cons g gs ih=>
  intro ks os o c0 H;obtain⟨g,b⟩:=g;have h1:c0 <+:(g c0).2:=H _ aa c0;have ih:=λks os o=>ih ks os o (g c0).2 λg hg=>H g<|ac _ hg;show c0 <+:M1 (eH ((g c0).1.isRef && !o) (.ret (g c0).1 (g c0).2)<|eH b (eH (g c0).1.isRef (.ret (.doo b6<|os++[(g c0).1]) (g c0).2)<|cN (ks++[(g c0).1.v]) os o gs (g c0).2)<|cN ks (os++[(g c0).1]) (o||(g c0).1.opn) gs (g c0).2)
  cases(g c0).1.isRef && !o with
  | true=>exact h1
  | false=>cases b with
   | true=>cases(g c0).1.isRef with
    | true=>exact h1
    | false=>exact h1.trans<|ih _ _ _
   | false=>exact h1.trans<|ih _ _ _
noncomputable def Q8(M':R->Ms)(A:Nat->Se Sb×Nat)(B:Nat->Se Sb×Nat)(bs:Sp)(ks:Sb) :Lp->Prop
 | .ret r _=> ∀k,IF (A k) B<|M' r k
 | .next ks' os' _ _=> ∃kd,ks'=ks++kd/\ ∀k,PR (A k) B bs kd<|gZ (os'.map M') k
theorem rf(s:Sem M'){L:T->Sf} :∀(ts:List T)(bs:Sp)(ks:Sb)(os:List R)(o:Bool)(c0:C),ts.length=bs.length->(∀t∈ts, ∀c,c <+:(L t c).2)->
  (∀t∈ts, ∀c0,(L t c0).2 <+:c-> ∀k,M t k=M' (L t c0).1 k)->(∀p∈ts.zip bs,p.2=true-> ∀c,TV (L p.1 c).1)->o=os.any R.opn->M1 (cN ks os o ((ts.map L).zip bs) c0) <+:c->
  Q8 M' (gZ<|os.map M') (gZ<|ts.map M) bs ks (cN ks os o ((ts.map L).zip bs) c0):=by
 intro ts;induction ts with
 | nil=>intro bs ks os o c0 hl _ _ _ _ _;cases bs with
  | cons b bs=>exact nomatch hl
  | nil=>refine⟨[],(aI _).symm,λk=>?_⟩;rcases q:gZ (os.map M') k with⟨r,k1⟩;cases r with
   | error e=>exact .err rfl rfl
   | ok ws=>exact .ok (ws':=[]) rfl rfl (by rw[aI]) .nil
 | cons t ts ih=>intro bs ks os o c0 hl hp H HT ho hc;cases bs with
  | nil=>exact nomatch hl
  | cons b bs=>
   have e:cN ks os o (((t::ts).map L).zip (b::bs)) c0=eH ((L t c0).1.isRef && !o) (.ret (L t c0).1 (L t c0).2) (eH b (eH (L t c0).1.isRef (.ret (.doo b6<|os++[(L t c0).1]) (L t c0).2)<|cN (ks++[(L t c0).1.v]) os o ((ts.map L).zip bs) (L t c0).2)
     (cN ks (os++[(L t c0).1]) (o||(L t c0).1.opn) ((ts.map L).zip bs) (L t c0).2)):=rfl
   rw[e]at hc |-;clear e;have tv:b=true->TV (L t c0).1:=λe=>HT (t,b) aa e c0;have pre:∀ks os o,(L t c0).2 <+:M1 (cN ks os o ((ts.map L).zip bs) (L t c0).2):=λks os o=>Aa _ _ _ _ _ λg hg c=>by obtain⟨u,hu,q⟩:=aH.mp (jb (a:=g.1) (b:=g.2) hg).1;rw[<- q];exact hp u (ac _ hu) c
   have ih:=λks os o c0=>ih bs ks os o c0 (be hl) (λt ht=>hp t<|ac _ ht) (λt ht=>H t<|ac _ ht) (λp hp=>HT p<|ac _ hp);have hm:=H t aa c0;generalize L t c0=p at *;obtain⟨r,c1⟩:=p;cases q1:r.isRef && !o with
   | true=>rw[q1]at hc;rw[az]at q1;cases r with
    | ref x=>
     have o0:o=false:=by cases o with | false=>rfl | true=>cases q1.2
     have hm:=hm hc;intro k;refine .ok (s.vals (pJ<|ho▸o0) k) ?_<|s.ref x k
     .show gZ (M t::ts.map M) k=_
      rw[fC,hm,s.ref]
    | _=>cases q1.1
   | false=>rw[q1]at hc;cases b with
    | true=>cases tv rfl with
     | @ref x h=>
      have hm:=hm hc;intro k;show IF _ _ (M' (.doo b6<|os++[.ref x]) k)
      rw[s.lst,aY,show [R.ref x].map M'=[M'<|.ref x] from rfl,xn];rcases q:gZ (os.map M') k with⟨r,k1⟩;cases r with
      | error e=>exact .err rfl rfl
      | ok ws=>
       refine .ok (k2:=k1) (e:=x) rfl ?_ ?_
       .show gZ (M t::ts.map M) k1=_;rw[fC,hm,s.ref]
       .dsimp only;rw[s.ref];rfl
     | @val v hv=>
      have hc:M1 (cN (ks++[v]) os o ((ts.map L).zip bs) c1) <+:c:=hc;have hm:=hm<|(pre _ _ _).trans hc;have I:=ih (ks++[v]) os o c1 ho hc;show Q8 M' (gZ<|os.map M') (gZ (M t::ts.map M)) (true::bs) ks (cN (ks++[v]) os o ((ts.map L).zip bs) c1)
      have eB:∀k,gZ (M t::ts.map M) k=match gZ (ts.map M) k with
        | (.error e,c)=>(.error e,c)
        | (.ok O,c)=>(.ok (v::O),c):=λk=>by have h:=fC (M t) (ts.map M) k;rw[(hm k).trans<|s.val v k]at h;exact h
      generalize cN (ks++[v]) os o ((ts.map L).zip bs) c1=l at *;cases l with
      | ret r c2=>intro k;cases I k with
       | err a b=>exact .err a b
       | ok a b d=>refine .ok a ?_ d;rw[eB,b]
      | next ks' os' o' c2=>obtain⟨kd,rfl,I⟩:=I;refine⟨v::kd,ah _ _ _,λk=>?_⟩;cases I k with
       | err a b=>exact .err a b
       | bad a b d=>refine .bad a ?_ d;rw[eB,b]
       | ok a b d g=>refine .ok a ?_ d<|.kn g;rw[eB,b]
    | false=>
     have hc:M1 (cN ks (os++[r]) (o||r.opn) ((ts.map L).zip bs) c1) <+:c:=hc;have hm:=hm<|(pre _ _ _).trans hc;have I:=ih ks (os++[r]) (o||r.opn) c1 (by rw[yp,ho]) hc;show Q8 M' (gZ<|os.map M') (gZ (M t::ts.map M)) (false::bs) ks (cN ks (os++[r]) (o||r.opn) ((ts.map L).zip bs) c1)
     have eA:∀k,gZ ((os++[r]).map M') k=match gZ (os.map M') k with
      | (.error e,k)=>(.error e,k)
      | (.ok O,k)=>match M' r k with
       | (.error e,k)=>(.error e,k)
       | (.ok v,k)=>(.ok<|O++[v],k):=λk=>by rw[aY];exact xn _ _ _
     have eB:∀k,gZ (M t::ts.map M) k=match M' r k with
       | (.error e,k)=>(.error e,k)
       | (.ok v,k)=>match gZ (ts.map M) k with
        | (.error e,c)=>(.error e,c)
        | (.ok O,c)=>(.ok (v::O),c):=λk=>by have h:=fC (M t) (ts.map M) k;rw[hm k]at h;exact h
     generalize cN ks (os++[r]) (o||r.opn) ((ts.map L).zip bs) c1=l at *;cases l with
     | ret r' c2=>intro k;have I:=I k;rw[eA]at I;rcases q:gZ (os.map M') k with⟨ra,k1⟩;rw[q]at I;cases ra with
      | error e=>cases I with
       | err a b=>cases a;exact .err rfl b
       | ok a b d=>cases a
      | ok ws=>dsimp only at I;have eB:=eB k1;rcases q2:M' r k1 with⟨rb,k2⟩;rw[q2]at I eB;cases rb with
       | error e=>cases I with
        | err a b=>cases a;exact .ok rfl eB b
        | ok a b d=>cases a
       | ok v=>cases I with
        | err a b=>cases a
        | ok a b d=>cases a;exact .ok rfl (by rw[eB];dsimp only;rw[b]) d
     | next ks' os' o' c2=>obtain⟨kd,rfl,I⟩:=I;refine⟨kd,rfl,λk=>?_⟩;have I:=I k;rw[eA]at I;rcases q:gZ (os.map M') k with⟨ra,k1⟩;rw[q]at I;cases ra with
      | error e=>cases I with
       | err a b=>cases a;exact .err rfl b
       | bad a b d=>cases a
       | ok a b d g=>cases a
      | ok ws=>dsimp only at I;have eB:=eB k1;rcases q2:M' r k1 with⟨rb,k2⟩;rw[q2]at I eB;cases rb with
       | error e=>cases I with
        | err a b=>cases a;exact .bad rfl eB b
        | bad a b d=>cases a
        | ok a b d g=>cases a
       | ok v=>cases I with
        | err a b=>cases a
        | bad a b d=>cases a;exact .bad rfl (by rw[eB];dsimp only;rw[b]) d
        | @ok _ ws' O _ _ a b d g=>cases a;exact .ok rfl (by rw[eB];dsimp only;rw[b]) (by rw[d,ah];rfl)<|.un g
end
noncomputable abbrev PG(f:ij) :lJ:=(f.1.nm,f.1.ps,f.2)
abbrev o3(fs:List ij) :List lJ:=fs.map PG
def jh(fs:List ij)(c:C) :Nat->C->List R->List lJ
 | k,x::S,r::rs=>(k7 k,qI fs x,jx c r)::jh fs c (k+1) S rs
 | _,_,_=>[]
theorem FC{c:C} :∀{V:List R}{k:Nat}{S:C},(jh fs c k S V).map j6=fF fs c k S V:=by intro V;induction V with
 | nil=>intro k S;cases S <;> rfl
 | cons d V ih=>intro k S;cases S with
  | nil=>rfl
  | cons x S=>show _::_=_::_;rw[ih]
noncomputable def QR(s:Str) :Nat:=s.cps.toList.tail.foldl (λa d=>10*a+(d - 48)) 0
theorem O1:(List.range 2316).all (λk=>decide<|QR (k7 k)=k)=true:=by kernel_rfl
theorem By(hi:i<=2315)(hj:j<=2315)(h:k7 i=k7 j) :i=j:=by have a:=aF<|aB.mp O1 i<|aW.mpr<|eF hi;have b:=aF<|aB.mp O1 j<|aW.mpr<|eF hj;rw[<- a,h,b]
theorem Bf{c:C}{x:cY} :∀{V:List R}{k:Nat}{S:C},k+V.length<=2315->V.length=S.length->x∈S-> ∃r,V[eU S x]? = some r/\S[eU S x]? = some x/\((jh fs c k S V).find? λg=>decide<|g.1=k7 (k+eU S x))=some (k7<|k+eU S x,qI fs x,jx c r):=by intro V;induction V with
 | nil=>intro k S _ hl hx;cases S with
  | nil=>cases hx
  | cons y S=>exact nomatch hl
 | cons d V ih=>intro k S hk hl hx;cases S with
  | nil=>exact nomatch hl
  | cons y S=>
   by_cases q:y=x
   .subst q;rw[kI];refine⟨d,rfl,rfl,?_⟩;show(List.find? _ (_::_))=_
    rw[List.find?_cons_of_pos (by exact ak rfl)];rfl
   .rw[iZ q];have hk':k+1+V.length<=2315:=by rw[aD]at hk;omega
    have hx':x∈S:=(am.mp hx).resolve_left λe=>q e.symm;have hl':V.length=S.length:=be hl;refine aR (ih (k:=k+1) hk' hl' hx') λr Q=>?_;refine⟨r,Q.1,Q.2.1,?_⟩;have e:k+(eU S x+1)=k+1+eU S x:=by omega
    have lt:=Cy hx';rw[e];show(List.find? _ (_::_))=_
    rw[List.find?_cons_of_neg (by intro h;have:=By (by omega) (by omega)<|aF h;omega)];exact Q.2.2
theorem xN:∀{fs:List ij},nX fs f=some g->((o3 fs).find? λh=>decide<|h.1=f)=some (PG g):=by intro fs;induction fs with
 | nil=>intro h;cases h
 | cons a fs ih=>
  intro h;have h:(if a.1.nm=f then some a else nX fs f)=some g:=h;by_cases q:a.1.nm=f
  .rw[if_pos q]at h;obtain rfl:=bO h;show(List.find? _ (_::_))=_
   rw[List.find?_cons_of_pos (by exact ak q)]
  .rw[if_neg q]at h;show(List.find? _ (_::_))=_
   rw[List.find?_cons_of_neg (by intro e;exact q<|aF e)];exact ih h
structure PZ(K E Su:Env)(ns:Sd) :Prop where
 kn:∀x∈ns, ∀v,bU K x=some v->lk E x=v
 un:∀x∈ns,bU K x=none->lk E x=lk Su x
theorem om(p:Str)(ps:Sd)(v:D)(O:Sb)(x:Str) :bU (kv (p::ps) (v::O)) x=if p=x then some v else bU (kv ps O) x:=rfl
theorem mf(p:Str)(ps:Sd)(v:D)(O:Sb)(x:Str) :lk (kv (p::ps) (v::O)) x=if p=x then v else lk (kv ps O) x:=by
 unfold lk;rw[om];by_cases q:p=x
 .rw[if_pos q,if_pos q];rfl
 .rw[if_neg q,if_neg q]
theorem GB{x:Str} :∀{ps:Sd}{O:Sb},x∉ps->bU (kv ps O) x=none:=by intro ps;induction ps with
 | nil=>intro O _;rw[v9];rfl
 | cons p ps ih=>intro O h;cases O with
  | nil=>rfl
  | cons v O=>rw[om,if_neg λ(e:p=x)=>h<|e▸aa];exact ih λm=>h<|ac _ m
theorem IA{ks ws O:Sb}(m:xg bs ks ws O) :∀{ps:Sd},bs.length=ps.length->ps.Nodup->PZ (kv (eL ps bs) ks) (kv ps O) (kv (kW ps bs) ws) ps:=by induction m with
 | nil=>intro ps h _;cases ps with
  | nil=>exact⟨λx hx=>(by cases hx),λx hx=>(by cases hx)⟩
  | cons p ps=>exact nomatch h
 | @kn bs ks ws O v m ih=>intro ps h nd;cases ps with
  | nil=>exact nomatch h
  | cons p ps=>
   rw[bh]at nd;have I:=ih (be h) nd.2;show PZ (kv (p::eL ps bs) (v::ks)) _ (kv (kW ps bs) ws) _
   refine⟨λx hx u e=>?_,λx hx e=>?_⟩
   .rw[om]at e;rw[mf];by_cases q:p=x
    .rw[if_pos q]at e |-;exact bO e
    .rw[if_neg q]at e |-;exact I.kn x ((am.mp hx).resolve_left λe=>q e.symm) u e
   .rw[om]at e;rw[mf];by_cases q:p=x
    .rw[if_pos q]at e;exact bz e.symm
    .rw[if_neg q]at e |-;exact I.un x ((am.mp hx).resolve_left λe=>q e.symm) e
 | @un bs ks ws O v m ih=>intro ps h nd;cases ps with
  | nil=>exact nomatch h
  | cons p ps=>
   rw[bh]at nd;have I:=ih (be h) nd.2;show PZ (kv (eL ps bs) ks) _ (kv (p::kW ps bs) (v::ws)) _
   refine⟨λx hx u e=>?_,λx hx e=>?_⟩
   .rw[mf];by_cases q:p=x
    .subst q;rw[GB (λm=>nd.1<|sF.subset m)]at e;exact bz e
    .rw[if_neg q];exact I.kn x ((am.mp hx).resolve_left λe=>q e.symm) u e
   .rw[mf,mf];by_cases q:p=x
    .rw[if_pos q,if_pos q]
    .rw[if_neg q,if_neg q];exact I.un x ((am.mp hx).resolve_left λe=>q e.symm) e
theorem K1{ks ws O:Sb}(m:xg bs ks ws O) :(∀b∈bs,b=false)->ws=O:=by induction m with
 | nil=>intro _;rfl
 | kn m ih=>intro h;exact nomatch h true aa
 | un m ih=>intro h;rw[ih λb hb=>h b<|ac _ hb]
theorem vF{c:C} :Sem λr=>sv m SD Su (jx c r):=by
 refine⟨λj0_ j1_=>rfl,λj0_ j1_=>rfl,λps k=>?_⟩;show Jj (gZ (svs m SD Su<|toTs c ps) k) (dn b6)=_
 rw[jg,gC,gx];rfl
theorem M2(b:β) :∀l:List α,(l.map λf=>(f,b))=l.zip (List.replicate l.length b):=by intro l;induction l with
 | nil=>rfl
 | cons a l ih=>exact congrArg ((a,b) :: ·) ih
section
variable {G:List Hd}{kn all:Sd}{K E Su:Env}{c:C}{m:Nat}{SD G':Str->Sb->Ms}
theorem FL(nd:(G.map (·.nm)).Nodup)(hw:∀h∈G,h.wn.length<=6)(hh:∀x∈kn, ∃v,bU K x=some v/\v∈Sl)(hv:∀x v,bU K x=some v->Vg v)(ag:PZ K E Su all)
  (HG:∀f ks ws O,(f,ks)∈c->xg (lV G f) ks ws O-> ∀k,SD f O k=G' (k7<|eU c (f,ks)) ws k) :
  ∀r t,Ok G kn all r t-> ∀c0,(lf G K t c0).2 <+:c-> ∀k,sv m SD E t k=sv m G' Su (jx c (lf G K t c0).1) k:=by
 intro r;induction r with
 | zero=>exact λj0_ h=>h.elim
 | succ r ih=>intro t ht c0 hc k;have gr:=B0 (ns:=all) nd hw hh hv (λx hx j0_=>hx);cases t with
  | val d=>rfl
  | ref x=>rfl
  | nam x=>
   show(Except.ok<|lk E x,k)=sv m G' Su (jx c (match bU K x with
    | some v=>R.val v
    | none=>R.nam x)) k
   cases q:bU K x with
   | some v=>show _=(Except.ok v,k);rw[ag.kn x ht v q]
   | none=>show _=(Except.ok<|lk Su x,k);rw[ag.un x ht q]
  | iff ps=>
   refine m5 (B3 ht.1) λa b e Q=>?_;subst Q;have ha:=ih a (ht.2 a (by simp)) c0;have hb:=ih b<|ht.2 b (by simp);have he:=ih e<|ht.2 e (by simp);have pb:=λc=>(gr r b (ht.2 b (by simp)) c).gw.pre;have pe:=λc=>(gr r e (ht.2 e (by simp)) c).gw.pre;have hc:(Ow (lf G K b) (lf G K e)<|lf G K a c0).2 <+:c:=hc;show MU (sv m SD E a k) (λk x=>eH x (sv m SD E e k)<|sv m SD E b k)=sv m G' Su (jx c (Ow (lf G K b) (lf G K e)<|lf G K a c0).1) k
   generalize lf G K a c0=p at *;obtain⟨ra,c1⟩:=p;have opn:∀ra,(∀k,sv m SD E a k=sv m G' Su (jx c ra) k)->(lf G K e (lf G K b c1).2).2 <+:c->MU (sv m SD E a k) (λk x=>eH x (sv m SD E e k)<|sv m SD E b k)=sv m G' Su (jx c<|.iff ra (lf G K b c1).1 (lf G K e (lf G K b c1).2).1) k:=λra hA hc=>by
    show _=MU (sv m G' Su (jx c ra) k) (λk x=>eH x (sv m G' Su (jx c (lf G K e (lf G K b c1).2).1) k)<|sv m G' Su (jx c (lf G K b c1).1) k)
    rw[hA];refine congrArg _<|funext λk=>funext λx=>?_;rw[he _ hc,hb _<|(pe _).trans hc]
   have lift:c1 <+:c-> ∀k,sv m SD E a k=sv m G' Su (jx c ra) k:=λh=>ha h;cases ra with
   | val v=>
    have two:∀b':Bool,(eH b' (lf G K e c1)<|lf G K b c1).2 <+:c->eH b' (sv m SD E e k) (sv m SD E b k)=sv m G' Su (jx c (eH b' (lf G K e c1)<|lf G K b c1).1) k:=λb' hc=>by cases b' with
     | true=>exact he _ hc k
     | false=>exact hb _ hc k
    have c1p:c1 <+:c:=by cases v with
     | tuple l=>exact hc
     | _=>have hc:(eH (dK _<|.int 0) (lf G K e c1)<|lf G K b c1).2 <+:c:=hc;revert hc;generalize dK _ (.int 0)=b';intro hc;cases b' with
      | true=>exact(pe _).trans hc
      | false=>exact(pb _).trans hc
    rw[lift c1p];cases v with
    | tuple l=>rfl
    | none=>exact two (dK .none<|.int 0) hc
    | bool b=>exact two (dK (.bool b)<|.int 0) hc
    | int i=>exact two (dK (.int i)<|.int 0) hc
    | str s=>exact two (dK (.str s)<|.int 0) hc
    | list l=>exact two (dK (.list l)<|.int 0) hc
    | dict l=>exact two (dK (.dict l)<|.int 0) hc
   | ref x=>rw[lift hc];rfl
   | nam x=>exact opn (.nam x) (lift<|((pb _).trans<|pe _).trans hc) hc
   | iff x y z=>exact opn (.iff x y z) (lift<|((pb _).trans<|pe _).trans hc) hc
   | doo x y=>exact opn (.doo x y) (lift<|((pb _).trans<|pe _).trans hc) hc
   | call x y z=>exact opn (.call x y z) (lift<|((pb _).trans<|pe _).trans hc) hc
  | doo op ps=>
   have h8:=jK ht.1.2;have lp:=DD (ns:=all) (λt m c=>gr r t (ht.2 t m) c) h8 c0;have hc:(MY op<|cN [] [] false ((lfs G K ps).map λf=>(f,false)) c0).2 <+:c:=hc;show Jj (gZ (svs m SD E ps) k) (dn op)=sv m G' Su (jx c (MY op<|cN [] [] false ((lfs G K ps).map λf=>(f,false)) c0).1) k
   rw[jg];rw[M2,iC,ai]at *;have SC:=rf (c:=c) (M:=sv m SD E) (vF (m:=m) (SD:=G') (Su:=Su) (c:=c)) (L:=lf G K) ps (List.replicate ps.length false) [] [] false c0 (List.length_replicate).symm (λt h c=>(gr r t (ht.2 t h) c).gw.pre) (λt h c0=>ih t (ht.2 t h) c0)
    (λp hp e=>by have:=List.eq_of_mem_replicate (jb (a:=p.1) (b:=p.2) hp).2;exact nomatch e.symm.trans this) rfl
   generalize cN [] [] false ((ps.map<|lf G K).zip<|List.replicate ps.length false) c0=l at *;cases l with
   | ret x c1=>have SC:=SC hc k;cases SC with
    | err a b=>cases a
    | ok a b d=>cases a;rw[b];exact d.symm
   | next ks os o c1=>obtain⟨kd,-,SC⟩:=SC hc;have SC:=SC k;cases lp with
    | next g h1 h2 h3 h4 h5=>
     have fn:sv m G' Su (jx c<|eH o (.doo op os)<|fin op os) k=Jj (gZ (os.map λr=>sv m G' Su<|jx c r) k) (dn op):=by cases o with
      | true=>
       show Jj (gZ (svs m G' Su<|toTs c os) k) (dn op)=_
       rw[jg,gC,gx];rfl
      | false=>
       rw[(vF (m:=m) (SD:=G') (Su:=Su) (c:=c)).vals<|pJ h5.symm];show sv m G' Su (jx c<|fin op os) k=(dn op<|os.map R.v,k)
       unfold fin;cases dn op (os.map R.v) <;> rfl
     refine Eq.trans ?_ fn.symm;cases SC with
     | err a b=>cases a
     | bad a b d=>cases a;rw[b,d]
     | ok a b d g=>cases a;rw[b,d,K1 g λb hb=>List.eq_of_mem_replicate hb];rfl
  | call f ps=>
   refine aR ht.1 λh Q=>?_;obtain⟨hm,rfl,hl,htm⟩:=Q;have h8:ps.length<=8:=by rw[hl];exact af (hw h hm) (by decide)
   have so:=qH nd hm;have hc:(u9 h.nm<|cN [] [] false ((lfs G K ps).zip<|lV G h.nm) c0).2 <+:c:=hc;show M0 m (gZ (svs m SD E ps) k) (SD h.nm)=sv m G' Su (jx c (u9 h.nm<|cN [] [] false ((lfs G K ps).zip<|lV G h.nm) c0).1) k
   rw[jg];rw[iC,so]at *;have SC:=rf (c:=c) (M:=sv m SD E) (vF (m:=m) (SD:=G') (Su:=Su) (c:=c)) (L:=lf G K) ps h.wn [] [] false c0 hl (λt h c=>(gr r t (ht.2 t h) c).gw.pre) (λt h c0=>ih t (ht.2 t h) c0)
    (λp hp e c=>(AH hh (htm p hp e) c).2) rfl
   generalize cN [] [] false ((ps.map<|lf G K).zip h.wn) c0=l at *;cases l with
   | ret x c1=>have SC:=SC hc k;cases SC with
    | err a b=>cases a
    | ok a b d=>cases a;rw[b];exact d.symm
   | next ks os o c1=>
    have hc:jt c1 (h.nm,ks) <+:c:=hc;have mm:(h.nm,ks)∈c:=hc.subset xW;obtain⟨kd,e,SC⟩:=SC<|(show c1 <+:jt c1 (h.nm,ks) from(Gw.add (Sv:=λj0_=>True) trivial).pre).trans hc;obtain rfl:ks=kd:=e;have SC:=SC k;have fn:sv m G' Su (jx c<|.call h.nm ks os) k=M0 m (gZ (os.map λr=>sv m G' Su<|jx c r) k) (G'<|k7<|eU c (h.nm,ks)):=by
     show M0 m (gZ (svs m G' Su<|toTs c os) k) _=_
     rw[jg,gC,gx];rfl
    refine Eq.trans ?_ fn.symm;cases SC with
    | err a b=>cases a
    | bad a b d=>cases a;rw[b,d];rfl
    | @ok ws ws' O k1 k2 a b d g=>
     cases a;rw[b,d];have H:=HG h.nm ks ws' O mm (by rw[qH nd hm];exact g);show(if m<k2+1 then _ else _)=(if m<k2+1 then _ else _)
     rw[H];rfl
end
section
variable {G:List Hd}{fs:List ij}{d:Nat}{V:List R}{c:C}{m:Nat}
structure ke(G:List Hd)(fs:List ij)(d:Nat)(V:List R)(c:C) :Prop where
 pg:Pg G fs d
 ok:qy G fs V c
 len:V.length=c.length
theorem ke.le(w:ke G fs d V c) :V.length<=2315:=by rw[w.len];exact w.ok.ck.le
structure Ej(G:List Hd)(fs:List ij)(d:Nat)(V:List R)(c:C)(x:cY)(f:ij)(r:R) :Prop where
 ca:Ek G fs x f
 us:Us G x
 rs:((jh fs c 0 c V).find? λg=>decide<|g.1=k7 (eU c x))=some (k7<|eU c x,qI fs x,jx c r)
 ns:qI fs x=kW f.1.ps f.1.wn
 at':V[eU c x]? = some r
 bd:∃c0,r=(lf G (kv (eL f.1.ps f.1.wn) x.2) f.2 c0).1/\(lf G (kv (eL f.1.ps f.1.wn) x.2) f.2 c0).2 <+:c
theorem ke.case(w:ke G fs d V c){x:cY}(hx:x∈c) :∃f r,Ej G fs d V c x f r:=by
 have u:=w.ok.ck.us x hx;refine aR (w.pg.case u) λf q=>?_;refine aR (Bf (fs:=fs) (c:=c) (k:=0) (by rw[aX];exact w.le) w.len hx) λr Q=>?_;refine⟨f,r,q,u,?_,?_,Q.1,?_⟩
 .have:=Q.2.2;rw[aX]at this;exact this
 .unfold qI;rw[q.at'];rfl
 .obtain⟨y,c0,hy,e,p⟩:=w.ok.at' _ r Q.1;obtain rfl:=bO<|Q.2.1.symm.trans hy;unfold Bd at e p;rw[q.at']at e p;exact⟨c0,e,p⟩
theorem xG(w:ke G fs d V c)(HG:∀f ks ws O,(f,ks)∈c->xg (lV G f) ks ws O-> ∀k,SD f O k=G' (k7<|eU c (f,ks)) ws k){x:cY}(o:Ej G fs d V c x f r){ws O:Sb}(mg:xg f.1.wn x.2 ws O)(k:Nat) :
  sv m SD (kv f.1.ps O) f.2 k=sv m G' (kv (qI fs x) ws) (jx c r) k:=by
 obtain⟨c0,e,p⟩:=o.bd;have ag:=IA mg (w.pg.wn _ o.ca.hm)<|w.pg.pn _ o.ca.hm;rw[o.ns,e];exact FL w.pg.nd (λh hm=>by rw[w.pg.wn h hm];exact w.pg.le h hm) (λy hy=>aR (mZ hy o.ca.kl) λv Q=>⟨v,Q.1,o.us.sl v Q.2⟩) (λy v e=>nE<|o.us.sl v<|wb e) ag HG d f.2 (w.pg.ok f o.ca.mem) c0 p k
theorem FM(w:ke G fs d V c) :∀j f ks ws O,(f,ks)∈c->xg (lV G f) ks ws O-> ∀k,cl (o3 fs) m j f O k=cl (jh fs c 0 c V) m j (k7<|eU c (f,ks)) ws k:=by intro j;induction j with
 | zero=>intro f ks ws O _ _ k;rfl
 | succ j ih=>
  intro f ks ws O hx mg k;refine kL (w.case hx) λg r o=>?_;have e1:fnOf (o3 fs) f=PG g:=by unfold fnOf;rw[xN o.ca.at'];rfl
  have e2:fnOf (jh fs c 0 c V) (k7<|eU c (f,ks))=(k7<|eU c (f,ks),qI fs (f,ks),jx c r):=by unfold fnOf;rw[o.rs];rfl
  show sv m _ (kv (fnOf (o3 fs) f).2.1 O) (fnOf (o3 fs) f).2.2 k=sv m _ (kv (fnOf (jh fs c 0 c V)<|k7<|eU c (f,ks)).2.1 ws) (fnOf (jh fs c 0 c V)<|k7<|eU c (f,ks)).2.2 k
  rw[e1,e2];exact xG w ih o (o.ca.so▸mg) k
theorem NN(SD:Pg G fs d) :∀r t,Ok G kn ns r t->Wf (ar<|o3 fs) ns r t:=by intro r;induction r with
 | zero=>exact λj0_ h=>h
 | succ r ih=>intro t h;cases t with
  | val d=>exact Vl.vg h
  | nam x=>exact h
  | ref x=>exact h
  | iff ps=>exact⟨h.1,λt m=>ih t<|h.2 t m⟩
  | doo op ps=>exact⟨h.1,λt m=>ih t<|h.2 t m⟩
  | call f ps=>
   refine⟨?_,λt m=>ih t<|h.2 t m⟩;obtain⟨g,hg,rfl,hl,_⟩:=h.1;have hg':=hg;rw[<- SD.hd]at hg';obtain⟨f,hf,rfl⟩:=aH.mp hg';unfold ar;rw[xN<|Ja (by rw[SD.hd];exact SD.nd) hf];show some f.1.ps.length=_
   rw[hl,SD.wn _ hg]
theorem Ql(SD:Pg G fs d) :PW (o3 fs) d:=by
 refine⟨λg hg=>?_,?_,?_⟩
 .obtain⟨f,hf,rfl⟩:=aH.mp hg;have hm:f.1∈G:=by rw[<- SD.hd];exact aH.mpr ⟨f,hf,rfl⟩
  exact⟨SD.le _ hm,SD.pn _ hm,NN SD d f.2<|SD.ok f hf⟩
 .have:=SD.nd
  rw[<- SD.hd,gx]at this;rw[gx];exact this
 .have:=SD.h5
  rw[<- SD.hd,ai]at this;rw[ai];exact af this (by decide)
theorem xC:∀{V:List R}{k:Nat}{S:C}{g:lJ},g∈jh fs c k S V-> ∃i x r,i<V.length/\V[i]? = some r/\S[i]? = some x/\g=(k7<|k+i,qI fs x,jx c r):=by intro V;induction V with
 | nil=>intro k S g h;cases S <;> cases h
 | cons e V ih=>intro k S g h;cases S with
  | nil=>cases h
  | cons y S=>
   rcases am.mp (show g∈(k7 k,qI fs y,jx c e)::jh fs c (k+1) S V from h) with rfl | h
   .exact⟨0,y,e,Nat.succ_pos _,rfl,rfl,rfl⟩
   .obtain⟨i,x,r,a,b,z,q⟩:=ih h;exact⟨i+1,x,r,Nat.succ_lt_succ a,b,z,by rw[q,d7]⟩
theorem Ky:∀{V:List R}{k:Nat}{S:C},k+V.length<=2316->((jh fs c k S V).map (·.1)).Nodup:=by intro V;induction V with
 | nil=>intro k S _;cases S <;> exact List.nodup_nil
 | cons e V ih=>intro k S hk;cases S with
  | nil=>exact List.nodup_nil
  | cons y S=>rw[aD]at hk;refine bh.mpr ⟨λh=>?_,ih (by omega)⟩;obtain⟨g,hg,e⟩:=aH.mp h;obtain⟨i,x,r,a,_,_,q⟩:=xC hg;rw[q]at e;have:=By (by omega) (by omega) e;omega
theorem FA:∀{V:List R}{k:Nat}{S:C},(jh fs c k S V).length<=V.length:=by intro V;induction V with
 | nil=>intro k S;cases S <;> exact ba _
 | cons e V ih=>intro k S;cases S with
  | nil=>exact ba _
  | cons y S=>exact dh ih
theorem NG(w:ke G fs d V c) :∀n r,Rk (nO G) ns c n r->Wf (ar<|jh fs c 0 c V) ns n (jx c r):=by intro n;induction n with
 | zero=>exact λj0_ h=>h
 | succ n ih=>
  intro r h;have ps:∀{ps:List R},(∀p∈ps,Rk (nO G) ns c n p)-> ∀t∈toTs c ps,Wf (ar<|jh fs c 0 c V) ns n t:=λ{ps} h t ht=>by rw[gC]at ht;obtain⟨p,hp,rfl⟩:=aH.mp ht;exact ih p<|h p hp
  have ln:∀{ps:List R},(toTs c ps).length=ps.length:=λ{ps}=>by rw[gC,ai]
  cases r with
  | val d=>exact h
  | nam x=>exact h
  | ref x=>exact h
  | iff a b e=>
   refine⟨rfl,λt ht=>?_⟩;simp only[am,bc,fh]at ht;rcases ht with rfl | rfl | rfl
   .exact ih _ h.1
   .exact ih _ h.2.1
   .exact ih _ h.2.2
  | doo op qs=>exact⟨⟨h.1.1,by rw[ln];exact h.1.2⟩,ps h.2⟩
  | call f ks qs=>
   refine⟨?_,ps h.2.2⟩;refine kL (w.case h.1) λg r o=>?_;unfold ar;rw[o.rs];show some (qI fs (f,ks)).length=_
   rw[ln,h.2.1,o.ns,AB<|w.pg.wn _ o.ca.hm];unfold nO;rw[o.ca.so]
theorem Qk(w:ke G fs d V c) :PW (jh fs c 0 c V) d:=by
 refine⟨λg hg=>?_,Ky (by have:=w.le;omega),af FA<|af w.le (by decide)⟩;obtain⟨i,x,r,_,hr,hx,rfl⟩:=xC hg;refine aR (w.ok.rk w.pg hr) λy q=>?_;obtain rfl:=bO<|hx.symm.trans q.1;refine aR (w.pg.case<|w.ok.ck.us x<|aN hx) λf o=>?_;have e:qI fs x=kW f.1.ps f.1.wn:=by unfold qI;rw[o.at'];rfl
 refine⟨?_,?_,NG w d r q.2⟩
 .show(qI fs x).length<=6
  rw[e];exact af AA.length_le<|w.pg.le _ o.hm
 .show(qI fs x).Nodup
  rw[e];exact AA.nodup<|w.pg.pn _ o.hm
end
def lB:Sb->Sp->Sb
 | v::O,b::bs=>eH b (v::lB O bs)<|lB O bs
 | _,_=>[]
def lX:Sb->Sp->Sb
 | v::O,b::bs=>eH b (lX O bs) (v::lX O bs)
 | _,_=>[]
theorem xS:∀{bs:Sp}{O:Sb},O.length=bs.length->xg bs (lB O bs) (lX O bs) O:=by intro bs;induction bs with
 | nil=>intro O h;cases O with
  | nil=>exact .nil
  | cons v O=>exact nomatch h
 | cons b bs ih=>intro O h;cases O with
  | nil=>exact nomatch h
  | cons v O=>cases b with
   | true=>exact .kn<|ih<|be h
   | false=>exact .un<|ih<|be h
theorem xU{ks ws O:Sb}(m:xg bs ks ws O) :ks.length=(bs.filter id).length/\ws.length=(bs.filter (!·)).length/\O.length=bs.length:=by induction m with
 | nil=>exact⟨rfl,rfl,rfl⟩
 | kn m ih=>exact⟨congrArg (· + 1) ih.1,ih.2.1,congrArg (· + 1) ih.2.2⟩
 | un m ih=>exact⟨ih.1,congrArg (· + 1) ih.2.1,congrArg (· + 1) ih.2.2⟩
theorem xT{ks ws O:Sb}(m:xg bs ks ws O){P:D->Prop}(h:∀v∈O,P v) :(∀v∈ks,P v)/\ ∀v∈ws,P v:=by induction m with
 | nil=>exact⟨λj0_ h=>(by cases h),λj0_ h=>(by cases h)⟩
 | kn m ih=>have I:=ih λv hv=>h v<|ac _ hv;exact⟨λv hv=>(am.mp hv).elim (λe=>e▸h _ aa)<|I.1 v,I.2⟩
 | un m ih=>have I:=ih λv hv=>h v<|ac _ hv;exact⟨I.1,λv hv=>(am.mp hv).elim (λe=>e▸h _ aa)<|I.2 v⟩
noncomputable abbrev upd(l:Sb)(k:Nat)(v:D) :Sb:=l.take k++[v]++l.drop (k+1)
theorem rL{l:Sb}{k:Nat}{v:D}(h:k<l.length) :(upd l k v).length=l.length:=by
 show(l.take k++[v]++l.drop (k+1)).length=_
 rw[aj,aj,eY,lP,Nat.min_eq_left<|oa h];show k+1+_=_;omega
theorem EH{v:D} :∀{k:Nat}{l:Sb}{bs:Sp},bs.getD k true=false->k<l.length->lB (upd l k v) bs=lB l bs:=by intro k;induction k with
 | zero=>intro l bs hb hl;cases l with
  | nil=>exact absurd hl<|nu _
  | cons x l=>cases bs with
   | nil=>rfl
   | cons b bs=>obtain rfl:b=false:=hb;rfl
 | succ k ih=>intro l bs hb hl;cases l with
  | nil=>exact absurd hl<|nu _
  | cons x l=>cases bs with
   | nil=>rfl
   | cons b bs=>
    have I:=ih (l:=l) (bs:=bs) hb<|Nat.lt_of_succ_lt_succ hl;show eH b (x::lB (upd l k v) bs) (lB (upd l k v) bs)=_
    rw[I];rfl
theorem EI{l:Sb}{k:Nat}{v:D}{P:D->Prop}(h:∀x∈l,P x)(hv:P v) :∀x∈upd l k v,P x:=λx hx=>by
 rcases cS.mp hx with hx | hx
 .rcases cS.mp hx with hx | hx
  .exact h x (List.mem_of_mem_take hx)
  .rw[aJ.mp hx];exact hv
 .exact h x (List.mem_of_mem_drop hx)
theorem AR{l:Sb}{k:Nat}(h:k<l.length) :vE (.tuple l) .none (.int<|0+(k:Int))=some (.fz<|.tuple<|l.take k):=by
 show(if 0<=0+(k:Int)/\0+(k:Int)<l.length then some (Rv.fz<|.tuple<|l.take (0+(k:Int)).toNat) else none)=_
 rw[if_pos ⟨by omega,by omega⟩,cy,cj]
theorem AS{l:Sb}{k:Nat}(h:k<l.length) :vE (.tuple l) (.int<|0+(k:Int)+1) .none=some (.fz<|.tuple<|l.drop<|k+1):=by
 show(if 0+(k:Int)+1=1 then Qc l else if 1<=0+(k:Int)+1/\0+(k:Int)+1<=l.length then some (Rv.fz<|.tuple<|l.drop (0+(k:Int)+1).toNat) else none)=_
 by_cases q:k=0
 .subst q;rw[if_pos (by rfl)];cases l with
  | nil=>exact absurd h<|nu _
  | cons a l=>rfl
 .rw[if_neg (by omega),if_pos ⟨by omega,by omega⟩,show(0+(k:Int)+1).toNat=k+1 by omega]
theorem GZ{l:Sp}{k:Nat}(h:k<l.length)(e:l.getD k false=false) :l.getD k true=false:=by rw[bg,aw h]at e |-;exact e
structure lR(wn:Sp)(ks:Sb)(l:Sb) :Prop where
 len:l.length=wn.length
 vg:∀v∈l,Vg v
 kn:lB l wn=ks
theorem lR.upd{ks l:Sb}(i:lR wn ks l){k:Nat}(hk:k<wn.length)(hb:wn.getD k false=false){v:D}(hv:Vg v) :lR wn ks (upd l k v):=
 ⟨(rL<|i.len▸hk).trans i.len,EI i.vg hv,(EH (GZ hk hb)<|i.len▸hk).trans i.kn⟩
abbrev RO:List St:=[.iff (.not<|.idx gA gp) [fr 4<|sc (sc (.slc iR pi gp)<|.tup [(.call 18 [(.call 16 [cT,(sc m8 gp)])])])<|.slc iR (sc gp eC) pi] []]
abbrev Rj:List St:=[.iff (.not<|.idx gA gp) [fr 4<|sc (sc (.slc iR pi gp)<|.tup [(.call 18 [(SF (.call 16 [cT,(sc (SH 16) gp)])<|SH 14)])])<|.slc iR (sc gp eC) pi] []]
noncomputable abbrev tw(wn:Sp) :D:=.tuple<|wn.map .bool
section
variable (N:Nat)(S:Sm)(a1 a2 a6 a7 a8 a9 a10 a11 a12 a13:Slot){wn:Sp}(h6:wn.length<=6){ks0:Sb}
include h6
theorem EL:∀(ks:Sg)(l:Sb)(s5:Slot),(∀k∈ks,k<wn.length)->lR wn ks0 l-> ∃l',dJ (ds<|N+1) [tF S,a1,a2,.fz<|tw wn,.fz<|.tuple l,s5,a6,a7,a8,a9,a10,a11,a12,a13] (.one 5) RO [5] (ks.map λ(k:Nat)=>.int<|0+k)=some (.ok .next,[tF S,a1,a2,.fz<|tw wn,.fz<|.tuple l',.no,a6,a7,a8,a9,a10,a11,a12,a13])/\lR wn ks0 l':=by intro ks;induction ks with
 | nil=>intro l s5 _ i;exact⟨l,by rw[aZ,b4];rfl,i⟩
 | cons k ks IH=>intro l s5 hk i;have hk0:=hk k aa;have hkl:k<l.length:=i.len▸hk0;have hw:jE (tw wn) (.int<|0+(k:Int))=some (.bool<|wn.getD k false):=rJ wn k hk0;rw[ay];cases hb:wn.getD k false with
  | true=>rw[hb]at hw;obtain⟨l',h,i'⟩:=IH l (.fz<|.int<|0+k) (λj hj=>hk j<|ac _ hj) i;refine⟨l',?_,i'⟩;generalize 0+(k:Int)=z at hw h |-;exact gI [.d 0<|hw,.lp 2<|h]
  | false=>
   rw[hb]at hw;obtain⟨c,hc⟩:=cell N S (12+(0+(k:Int))) (by omega);obtain⟨d,hd,vd⟩:=oL N c;have i2:=i.upd hk0 hb vd.vg;obtain⟨l',h,i'⟩:=IH _ (.fz<|.int<|0+k) (λj hj=>hk j<|ac _ hj) i2;refine⟨l',?_,i'⟩;have s1:=AR hkl;have s2:=AS hkl;have le:=i.len;have o1:op2 .add (.tuple<|l.take k) (.tuple [d])=some (.fz<|.tuple<|l.take k++[d]):=by rw[mW,if_pos];rw[eY];show min k l.length+1<=16777216;omega
   have o2:op2 .add (.tuple<|l.take k++[d]) (.tuple<|l.drop<|k+1)=some (.fz<|.tuple<|upd l k d):=by
    rw[mW,if_pos];rw[<- aj];show(upd l k d).length<=16777216
    rw[rL hkl];omega
   generalize upd l k d=L2 at *;generalize l.take k++[d]=L1 at *;generalize l.take k=L0 at *;generalize l.drop (k+1)=L3 at *;generalize 0+(k:Int)=z at *;exact gI [.d 0<|hw,.v 2<|s1,.c 1<|hc,.c 0<|hd,.v 0<|o1,.v 1<|s2,.v 0<|o2,.lp 0<|h]
theorem EK:∀(ks:Sg)(l:Sb)(s5:Slot),(∀k∈ks,k<wn.length)->lR wn ks0 l-> ∃l',dJ (ds<|N+1) [tF S,a1,a2,.fz<|tw wn,.fz<|.tuple l,s5,a6,a7,a8,a9,a10,a11,a12,a13] (.one 5) Rj [5] (ks.map λ(k:Nat)=>.int<|0+k)=some (.ok .next,[tF S,a1,a2,.fz<|tw wn,.fz<|.tuple l',.no,a6,a7,a8,a9,a10,a11,a12,a13])/\lR wn ks0 l':=by intro ks;induction ks with
 | nil=>intro l s5 _ i;exact⟨l,by rw[aZ,b4];rfl,i⟩
 | cons k ks IH=>intro l s5 hk i;have hk0:=hk k aa;have hkl:k<l.length:=i.len▸hk0;have hw:jE (tw wn) (.int<|0+(k:Int))=some (.bool<|wn.getD k false):=rJ wn k hk0;rw[ay];cases hb:wn.getD k false with
  | true=>rw[hb]at hw;obtain⟨l',h,i'⟩:=IH l (.fz<|.int<|0+k) (λj hj=>hk j<|ac _ hj) i;refine⟨l',?_,i'⟩;generalize 0+(k:Int)=z at hw h |-;exact gI [.d 0<|hw,.lp 2<|h]
  | false=>
   rw[hb]at hw;obtain⟨c,hc⟩:=cell N S (16+(0+(k:Int))) (by omega);obtain⟨d,hd,vd⟩:=oL N<|c.fmod 14;have i2:=i.upd hk0 hb vd.vg;obtain⟨l',h,i'⟩:=IH _ (.fz<|.int<|0+k) (λj hj=>hk j<|ac _ hj) i2;refine⟨l',?_,i'⟩;have s1:=AR hkl;have s2:=AS hkl;have le:=i.len;have o1:op2 .add (.tuple<|l.take k) (.tuple [d])=some (.fz<|.tuple<|l.take k++[d]):=by rw[mW,if_pos];rw[eY];show min k l.length+1<=16777216;omega
   have o2:op2 .add (.tuple<|l.take k++[d]) (.tuple<|l.drop<|k+1)=some (.fz<|.tuple<|upd l k d):=by
    rw[mW,if_pos];rw[<- aj];show(upd l k d).length<=16777216
    rw[rL hkl];omega
   have hm:op2 .mod (.int c) (.int 14)=some (.fz<|.int<|c.fmod 14):=by rw[Bu];exact if_neg (by decide)
   generalize upd l k d=L2 at *;generalize l.take k++[d]=L1 at *;generalize l.take k=L0 at *;generalize l.drop (k+1)=L3 at *;generalize 0+(k:Int)=z at *;exact gI [.d 0<|hw,.v 2<|s1,.c 1<|hc,.v 0<|hm,.c 0<|hd,.v 0<|o1,.v 1<|s2,.v 0<|o2,.lp 0<|h]
omit h6
noncomputable def Fz:Nat->Nat->Sb
 | _,0=>[]
 | i,n+1=>.int (0+(i:Int))::Fz (i+1) n
theorem NH:∀(n i:Nat),(List.range' i n).map (λ(k:Nat)=>PyData.int<|0+k)=Fz i n:=by intro n;induction n with
 | zero=>intro i;rfl
 | succ n ih=>intro i;rw[List.range'_succ,ay,ih];rfl
theorem ue(n:Nat) :(List.range n).map (λ(k:Nat)=>PyData.int<|0+k)=Fz 0 n:=by rw[List.range_eq_range'];exact NH n 0
theorem ta{l r:List α}(h:l.drop i=a::r) :l[i]? = some a/\l.drop (i+1)=r:=by
 refine⟨?_,?_⟩
 .rw[<- List.head?_drop,h];rfl
 .rw[<- List.tail_drop,h];rfl
theorem Cz{l:Sb}{i:Nat}{d:D}(h:l[i]? = some d) :jE (.tuple l) (.int<|0+(i:Int))=some d:=by
 show da l (0+(i:Int))=_
 unfold da;rw[cy,if_pos<|cH _,cj];exact h
theorem I2{i:Nat}{b:Bool}(h:wn[i]? = some b) :jE (tw wn) (.int<|0+(i:Int))=some (.bool b):=by refine Cz ?_;rw[bn,h];rfl
theorem Qx(l:Sb)(a5:Slot) :∀r bs i s12,l.drop i=r->wn.drop i=bs->r.length=bs.length->
  dC (ds N) [tF S,a1,a2,.fz<|tw wn,.fz<|.tuple l,a5,a6,a7,a8,a9,a10,a11,s12,a13] (.idx iR mP) (.one 12) [(.idx gA mP)] (Fz i r.length)=some (.ok<|lB r bs,[tF S,a1,a2,.fz<|tw wn,.fz<|.tuple l,a5,a6,a7,a8,a9,a10,a11,.no,a13]):=by
 intro r;induction r with
 | nil=>intro bs i s12 _ _ _;exact cI ..
 | cons d r ih=>intro bs i s12 h1 h2 hl;cases bs with
  | nil=>exact nomatch hl
  | cons b bs=>have q1:=ta h1;have q2:=ta h2;have I:=ih bs (i+1) (.fz<|.int<|0+(i:Int)) q1.2 q2.2<|be hl;have e1:=Cz q1.1;have e2:=I2 q2.1;rw[aD,show Fz i (r.length+1) = .int (0+(i:Int))::Fz (i+1) r.length from rfl];generalize 0+(i:Int)=z at *;cases b with
   | true=>rw[show lB (d::r) (true::bs)=d::lB r bs from rfl];exact p9 [.d 0<|e2,.d 1<|e1,.cp 0<|I]
   | false=>rw[show lB (d::r) (false::bs)=lB r bs from rfl];exact p9 [.d 0<|e2,.cp 1<|I]
theorem Qa(l:Sb)(a5:Slot) :∀r bs i s13,l.drop i=r->wn.drop i=bs->r.length=bs.length->
  dC (ds N) [tF S,a1,a2,.fz<|tw wn,.fz<|.tuple l,a5,a6,a7,a8,a9,a10,a11,a12,s13] (.idx iR oH) (.one 13) [(.not<|.idx gA oH)] (Fz i r.length)=some (.ok<|lX r bs,[tF S,a1,a2,.fz<|tw wn,.fz<|.tuple l,a5,a6,a7,a8,a9,a10,a11,a12,.no]):=by
 intro r;induction r with
 | nil=>intro bs i s12 _ _ _;exact cI ..
 | cons d r ih=>intro bs i s12 h1 h2 hl;cases bs with
  | nil=>exact nomatch hl
  | cons b bs=>have q1:=ta h1;have q2:=ta h2;have I:=ih bs (i+1) (.fz<|.int<|0+(i:Int)) q1.2 q2.2<|be hl;have e1:=Cz q1.1;have e2:=I2 q2.1;rw[aD,show Fz i (r.length+1) = .int (0+(i:Int))::Fz (i+1) r.length from rfl];generalize 0+(i:Int)=z at *;cases b with
   | true=>rw[show lX (d::r) (true::bs)=lX r bs from rfl];exact p9 [.d 0<|e2,.cp 2<|I]
   | false=>rw[show lX (d::r) (false::bs)=d::lX r bs from rfl];exact p9 [.d 0<|e2,.d 2<|e1,.cp 0<|I]
end
theorem LM(b:Bool) :PyData.eqv (.bool b) (.bool b)=true:=by cases b <;> kernel_rfl
theorem HB{a b:D}(ha:PyData.eqv a a=true)(hb:PyData.eqv b b=true) :PyData.eqv (.tuple [a,b]) (.tuple [a,b])=true:=by rw[wM,sU,sU,ha,hb,PyData.eqvAll];rfl
theorem KY{R:Se D}(g:Ju R) :bZ .ne (eG R) (eG R)=some false:=by
 have fin:∀{b:Bool}{d:D},PyData.eqv d d=true->noDict d=true->d.depth<=50->bZ .ne (.tuple [.bool b,d]) (.tuple [.bool b,d])=some false:=λ{b d} h1 h2 h3=>by
  rw[pG];show Option.map _ (if mn _ _=true then some (PyData.eqv _ _) else none)=_
  have ok:mn (.tuple [.bool b,d]) (.tuple [.bool b,d])=true:=by
   unfold mn;have nd:noDict (.tuple [.bool b,d])=true:=by show(true&&(noDict d&&true))=true;rw[h2];rfl
   have dp:PyData.depth (.tuple [.bool b,d])<=64:=by
    show PyData.depthAll [.bool b,d]+1<=64
    have:=qZ (V:=[.bool b,d]) (m:=50) λe he=>by
     rcases am.mp he with rfl | he
     .exact ba _
     .rw[aJ.mp he];exact h3
    omega
   rw[nd,ak<|af (ny _ _) dp];rfl
  rw[if_pos ok,HB (LM b) h1];rfl
 cases R with
 | ok v=>have q:=oi v<|Vg.g g;exact fin (jW v<|Vg.key g) q.1 (by rw[q.2];exact Vg.dp g)
 | error e=>exact fin (jW (.str e) rfl) rfl<|ba _
structure Pu(p l:D)(ins oth:Sb)(m:Nat)(R:Se D) :Prop where
 gd:Ju R
 due:cF P 312 26 [.fz p,.fz<|.tuple ins,.fz<|.int m]=gK (eG R)
 ran:cF P 312 28 [.fz l,.fz<|.tuple oth,.fz<|.int m]=gK (eG R)
 lef:cF P 312 26 [.fz l,.fz<|.tuple oth,.fz<|.int m]=gK (eG R)
theorem tN{b:T}(pw:PW ((nm,ps,b)::fs) 20)(hl:ps.length=ins.length)(hm:m<=9)(hi:∀v∈ins,Vg v) :
  Ju (sv m (cl ((nm,ps,b)::fs) m m) (kv ps ins) b 0).1/\cF P 312 26 [.fz<|hW ((nm,ps,b)::fs),.fz<|.tuple ins,.fz<|.int m]=gK (eG (sv m (cl ((nm,ps,b)::fs) m m) (kv ps ins) b 0).1):=by
 have o:=pw.fn (nm,ps,b) aa;have tk:=tO (m:=m) pw 250 b (kv ps ins) 0 m ps 20 o.2.2 (oq hl hi) (by unfold En;have:ht b<=20:=(Wf.small pw.a6 _ _ o.2.2).2;omega)<|eJ _ _;exact⟨tk.vg,Gg 311 o.2.1 hl o.1 tk.run⟩
theorem LQ(fs:List ij) :fM fs=hW (o3 fs):=by
 show PyData.tuple _=PyData.tuple _
 rw[gx];rfl
theorem Bg{c S xs':C}{x:cY}{k:Nat}(h:S=x::xs') :jh fs c k S (r::V)=(k7 k,qI fs x,jx c r)::jh fs c (k+1) xs' V:=by subst h;rfl
section
variable {G:List Hd}{f0:ij}{fs':List ij}{V:List R}{c:C}{ks:Sb}
theorem ND(w:ke G (f0::fs') 20 V c)(pre: [(f0.1.nm,ks)] <+:c)(i:lR f0.1.wn ks ins)(hm:m<=9) :
  ∃R,Pu (fM (f0::fs')) (.tuple<|fF (f0::fs') c 0 c V) ins (lX ins f0.1.wn) m R:=by
 have mem:(f0.1.nm,ks)∈c:=pre.subset aa;have mg:=xS i.len;rw[i.kn]at mg;have hm0:f0.1∈G:=by rw[<- w.pg.hd];exact aa
 have pwo:=Ql w.pg;have pwr:=Qk w;refine kL (w.case mem) λf r o=>?_;have e0:nX (f0::fs') f0.1.nm=some f0:=if_pos rfl;obtain rfl:=bO<|e0.symm.trans o.ca.at';have at':=o.at';rw[LQ,<- FC,show PyData.tuple ((jh (f0::fs') c 0 c V).map j6)=hW (jh (f0::fs') c 0 c V) from rfl];have pe:=xG (m:=m) w (FM (m:=m) w m) o mg 0;have sp:∃c',c=(f0.1.nm,ks)::c':=by obtain⟨e,he⟩:=pre;exact⟨e,he.symm⟩
 obtain⟨c',hc'⟩:=sp;have hz:eU c (f0.1.nm,ks)=0:=by rw[hc'];exact kI
 rw[hz]at at';have sd:∃ds',V=r::ds':=by cases V with
  | nil=>exact bz at'
  | cons x ds'=>obtain rfl:=bO at';exact⟨ds',rfl⟩
 obtain⟨ds',rfl⟩:=sd;have er:=Bg (fs:=f0::fs') (c:=c) (k:=0) (r:=r) (V:=ds') hc';have ln:=xU mg;have me:=xT mg i.vg;have hO:(qI (f0::fs') (f0.1.nm,ks)).length=(lX ins f0.1.wn).length:=by rw[o.ns,AB<|w.pg.wn _ hm0,ln.2.1]
 have hI:f0.1.ps.length=ins.length:=by rw[i.len,w.pg.wn _ hm0]
 have A:=tN pwo hI hm i.vg;rw[er]at pwr pe |-;have B:=tN pwr hO hm me.2;have D:=Kv 248 pwr hO hm me.2;have pe:(sv m (cl (PG f0::o3 fs') m m) (kv f0.1.ps ins) f0.2 0).1=_:=congrArg Prod.fst pe;have A2:=A.2;rw[pe]at A2;exact⟨_,B.1,A2,Kz 310 _ _ _ _ B.1 D,B.2⟩
abbrev Rr:List St:=[fr 10<|.call 26 [fY,iR,gi],fr 11<|.call 28 [oh,gB,gi],.iff (.bo false [(.cmp .ne (.idx lz fK)<|.idx dl fK),(.not<|.call 19 [(.idx lz eC),(.idx dl eC)]),(.cmp .ne (.call 26 [oh,gB,gi]) dl)]) [.ret jG] []]
abbrev RQ:List St:=[fr 8<|.bi .tuple [(.comp (.idx iR oH) (.one 13) .range [(.bi .len [gA])] [(.not<|.idx gA oH)])],.for_ (.one 9) .seq [(.list [fK,nZ,(SF (.call 16 [cT,(SH 15)])<|SH 10)])] Rr [9,10,11],.for_ (.one 5) .range [(.bi .len [gA])] Rj [5]]
theorem Ga(a0 a1 a3 a5 a7 a12 a13:Slot){p l:D} :∀SJ s9 s10 s11,(∀d∈SJ, ∃m R,d = .int (m:Nat)/\Pu p l ins oth m R)->
  dJ (ds 312) [a0,a1,.fz p,a3,.fz<|.tuple ins,a5,.fz l,a7,.fz<|.tuple oth,s9,s10,s11,a12,a13] (.one 9) Rr [9,10,11] SJ=some (.ok .next,[a0,a1,.fz p,a3,.fz<|.tuple ins,a5,.fz l,a7,.fz<|.tuple oth,.no,.no,.no,a12,a13]):=by
 intro SJ;induction SJ with
 | nil=>intro s9 s10 s11 _;rw[b4];rfl
 | cons d SJ IH=>intro s9 s10 s11 h;obtain⟨m,R,rfl,s⟩:=h d aa;have ih:=IH (.fz<|.int m) (.fz<|eG R) (.fz<|eG R) λe he=>h e<|ac _ he;have ne:=KY s.gd;obtain⟨g,h1,h2,h3⟩:=s;generalize ((m:Nat) :Int)=z at *;cases R with
  | ok v=>have sm:=Fw 312 v g<|af (Vg.w g) (by decide);exact gI [.c 0<|h1,.c 0<|h2,.c 6<|sm,.c 2<|h3,.b 0<|ne,.lp 1<|ih]
  | error e=>have sm:=A6 311 e;exact gI [.c 0<|h1,.c 0<|h2,.c 6<|sm,.c 2<|h3,.b 0<|ne,.lp 1<|ih]
theorem B2(wn:Sp) :pI .len [tw wn]=some (.fz<|.int wn.length):=by show some (Rv.fz<|.int (((wn.map PyData.bool).length:Nat) :Int))=_;rw[ai]
theorem EN(S:Sm)(a1:Slot)(w:ke G (f0::fs') 20 V c)(pre: [(f0.1.nm,ks)] <+:c) :∀(SJ:Sb)(ins:Sb)(s5 s7 s8 s9 s10 s11:Slot),lR f0.1.wn ks ins->
  ∃ins',dJ (ds 312) [tF S,a1,.fz<|fM (f0::fs'),.fz<|tw f0.1.wn,.fz<|.tuple ins,s5,.fz<|.tuple<|fF (f0::fs') c 0 c V,s7,s8,s9,s10,s11,.no,.no] (.one 7) RQ [5,7,8,9,10,11] SJ
   = some (.ok .next,[tF S,a1,.fz<|fM (f0::fs'),.fz<|tw f0.1.wn,.fz<|.tuple ins',.no,.fz<|.tuple<|fF (f0::fs') c 0 c V,.no,.no,.no,.no,.no,.no,.no]):=by
 have hm0:f0.1∈G:=by rw[<- w.pg.hd];exact aa
 have h6:f0.1.wn.length<=6:=by rw[w.pg.wn _ hm0];exact w.pg.le _ hm0
 intro SJ;induction SJ with
 | nil=>intro ins s5 s7 s8 s9 s10 s11 _;exact⟨ins,by rw[b4];rfl⟩
 | cons d SJ IH=>
  intro ins s5 s7 s8 s9 s10 s11 i;have SC:=λ{m:Nat} (hm:m<=9)=>ND w pre i hm;have uc:=Qa 312 S a1 (.fz<|fM (f0::fs')) (.fz<|.tuple<|fF (f0::fs') c 0 c V) (.fz d) .no .no .no .no .no (wn:=f0.1.wn) ins .no ins f0.1.wn 0 .no rfl rfl i.len;obtain⟨c15,h15⟩:=cell 311 S 15 (by decide);obtain⟨m,hmm⟩ :∃m:Nat,c15.fmod 10=(m:Int):=⟨(c15.fmod 10).toNat,(dI (fm c15 10 (by decide)).1).symm⟩
  have m9:m<=9:=by have:=(fm c15 10 (by decide)).2;omega
  have hmod:op2 .mod (.int c15) (.int 10)=some (.fz<|.int (m:Int)):=by rw[Bu];exact(if_neg (by decide)).trans (by rw[hmm])
  have mo:=Ga (tF S) a1 (.fz<|tw f0.1.wn) .no (.fz d) .no .no (p:=fM (f0::fs')) (l:=.tuple<|fF (f0::fs') c 0 c V) (ins:=ins) (oth:=lX ins f0.1.wn) [.int 0,.int 3,.int m] .no .no .no λe he=>by
   simp only[am,bc,fh]at he;rcases he with rfl | rfl | rfl
   .exact aR (SC (m:=0) (by decide)) λR s=>⟨0,R,rfl,s⟩
   .exact aR (SC (m:=3) (by decide)) λR s=>⟨3,R,rfl,s⟩
   .exact aR (SC m9) λR s=>⟨m,R,rfl,s⟩
  obtain⟨l2,u2,i2⟩:=EK 311 S a1 (.fz<|fM (f0::fs')) (.fz<|.tuple<|fF (f0::fs') c 0 c V) (.fz d) (.fz<|.tuple<|lX ins f0.1.wn) .no .no .no .no .no h6 (List.range f0.1.wn.length) ins .no (λk hk=>aW.mp hk) i;obtain⟨l3,u3⟩:=IH l2 .no (.fz d) (.fz<|.tuple<|lX ins f0.1.wn) .no .no .no i2;refine⟨l3,?_⟩;have hl:=B2 f0.1.wn;have hr:di .range [.int (f0.1.wn.length:Int)]=some ((List.range f0.1.wn.length).map λ(k:Nat)=>PyData.int<|0+k):=(dB _).trans<|ek _<|af h6 (by decide);rw[i.len,<- ue]at uc;generalize (List.range f0.1.wn.length).map (λ(k:Nat)=>PyData.int<|0+k)=rg at *;generalize ((f0.1.wn.length:Nat) :Int)=z at *;generalize tw f0.1.wn=W at *;generalize fM (f0::fs')=pD at *;generalize fF (f0::fs') c 0 c V=lD at *;generalize lX ins f0.1.wn=oD at *;exact gI [.v 0<|hl,.l 0<|hr,.cp 0<|uc,.c 1<|h15,.v 0<|hmod,.lp 1<|mo,.v 0<|hl,.l 0<|hr,.lp 0<|u2,.lp 0<|u3]
theorem law_ok(S:Sm) :cF P 313 43 [tF S]=IW true:=by obtain⟨hs0,fs0,h1,a0⟩:=Dy 290 S;obtain⟨G,fs,h2,a⟩:=yD 310 S a0;cases fs with
 | nil=>exact absurd rfl a.ne
 | cons f0 fs'=>
  have hd:=a.pg.hd;obtain⟨hr,rfl⟩ :∃hr,G=f0.1::hr:=⟨_,hd.symm⟩
  have hm0:f0.1∈f0.1::hr:=aa;have h6:f0.1.wn.length<=6:=by rw[a.pg.wn _ hm0];exact a.pg.le _ hm0
  obtain⟨in0,h3,l0,sl0⟩:=zg 310 S f0.1.wn.length<|af h6 (by decide);have mg:=xS l0;have i0:lR f0.1.wn (lB in0 f0.1.wn) in0:=⟨l0,λv hv=>nE<|sl0 v hv,rfl⟩
  generalize hk:lB in0 f0.1.wn=ks at *;have u:Us (f0.1::hr) (f0.1.nm,ks):=⟨⟨f0.1,hm0,rfl,(xU mg).1⟩,(xT mg sl0).1⟩
  obtain⟨V,c,wk,hw⟩:=yx a.pg a.cn rfl u;have w:ke (f0.1::hr) (f0::fs') 20 V c:=⟨a.pg,wk.ok,wk.len⟩
  have h4:=N1 310 _ _ _ _ _<|hw 208;have h5:cF P 312 39 [.fz<|.list<|(f0.1::hr).map eW]=_:=vC 311 a.pg.nd a.pg.h5;obtain⟨in1,u1,i1⟩:=EL 311 S (.fz<|.list<|(f0.1::hr).map eW) (.fz<|fM (f0::fs')) .no .no .no .no .no .no .no .no h6 (List.range f0.1.wn.length) in0 .no (λk hk=>aW.mp hk) i0;have kc:=Qx 312 S (.fz<|.list<|(f0.1::hr).map eW) (.fz<|fM (f0::fs')) .no .no .no .no .no .no .no (wn:=f0.1.wn) in1 .no in1 f0.1.wn 0 .no rfl rfl i1.len;obtain⟨in2,tl⟩:=EN S (.fz<|.list<|(f0.1::hr).map eW) w wk.pre [.int 0,.int 1] in1 .no .no .no .no .no .no i1;have x0:jE (.list<|(f0.1::hr).map eW) (.int 0)=some (eW f0.1):=rfl;have hl:=B2 f0.1.wn;have hrg:di .range [.int (f0.1.wn.length:Int)]=some ((List.range f0.1.wn.length).map λ(k:Nat)=>PyData.int<|0+k):=(dB _).trans<|ek _<|af h6 (by decide);rw[i1.len,<- ue,i1.kn]at kc;generalize (List.range f0.1.wn.length).map (λ(k:Nat)=>PyData.int<|0+k)=rg at *;generalize ((f0.1.wn.length:Nat) :Int)=z at *;generalize fM (f0::fs')=pD at *;generalize fF (f0::fs') c 0 c V=lD at *;generalize dq (f0.1::hr)=sD at *;generalize (f0.1::hr).map eW=hD at *;exact bB [.c 0<|h1,.c 0<|h2,.d 0<|x0,.v 1<|hl,.c 0<|h3,.v 0<|hl,.l 0<|hrg,.lp 0<|u1,.c 0<|h5,.v 0<|hl,.l 0<|hrg,.cp 0<|kc,.c 1<|h4,.lp 1<|tl]
end
end Lq
end
open PySem PySem.W PyProof.Rows Mv
set_option maxHeartbeats 8000000
namespace Lq
theorem defAt:(recsOf Hq.view)[43]? = some Hq.dk.1:=by kernel_rfl
theorem CJ(P:Params) :gL (Hq.K P) (Str.ofString "SINGLES") = some (.ref 150):=by kernel_rfl
theorem Ci(P:Params) :∃o,(Hq.K P).lookup 150 = some o/\o = {cls:=.type "tuple",data:=.seq [Value.str ⟨[100,111,119,110].toArray⟩ 379,Value.str ⟨[102,105,114,115,116].toArray⟩ 380,Value.str ⟨[114,101,115,116].toArray⟩ 381,Value.str ⟨[101,109,112,116,121].toArray⟩ 382].toArray}:=⟨_,rfl,by kernel_rfl⟩
theorem OI(P:Params) :gL (Hq.K P) (Str.ofString "TAME") = some (.ref 200):=by kernel_rfl
theorem Om(P:Params) :∃o,(Hq.K P).lookup 200 = some o/\o = {cls:=.type "tuple",data:=.seq [Value.str ⟨[102,105,114,115,116].toArray⟩ 440,Value.str ⟨[114,101,115,116].toArray⟩ 441,Value.str ⟨[100,111,119,110].toArray⟩ 442].toArray}:=⟨_,rfl,by kernel_rfl⟩
theorem Nh:valOf Hq.view (Str.ofString "HEAVIEST") = some (.int 50):=by kernel_rfl
section
variable [Hp]{loose:Sd}{mean:ExcName->So}
theorem glsOk(KX:(Hq.K w.params).In B)(hgl:∀x,mg x=gL (Hq.K w.params) x)(T:Top Hq.view loose mean mg mb B)(SA:LooseAre Hq.lv mg B) :∀(k:Nat)(x:Str)(d:D),gls[k]? = some x->P.glob[k]? = some d-> ∃v,mg x=some v/\ ∀(h':Heap)(Z:Ss),(∀a o,B.get? a=some o->h'.get? a=some o)->(∀a o,B.get? a=some o->Z a)->dW h' Z v d:=by
 intro k x d hk hd'
 match k,hk,hd' with
 | 0,hk,hd'=>cases hk;cases hd';exact y4 SA<|.head _
 | 1,hk,hd'=>cases hk;cases hd';exact const_int T Nh
 | 2,hk,hd'=>cases hk;cases hd';refine⟨.ref 150,(hgl _).trans<|CJ w.params,λh' Z hk hz=>?_⟩;obtain⟨o,e,q⟩:=Ci w.params;have e:=KX _ _ e;rw[q]at e;exact .tuple (hz _ _ e) (hk _ _ e) (by decide)<|(.cons (.str _ _ (by kernel_rfl) (by decide))<|.cons (.str _ _ (by kernel_rfl) (by decide))<|.cons (.str _ _ (by kernel_rfl) (by decide))<|.cons (.str _ _ (by kernel_rfl) (by decide)) .nil)
 | 3,hk,hd'=>cases hk;cases hd';refine⟨.ref 200,(hgl _).trans<|OI w.params,λh' Z hk hz=>?_⟩;obtain⟨o,e,q⟩:=Om w.params;have e:=KX _ _ e;rw[q]at e;exact .tuple (hz _ _ e) (hk _ _ e) (by decide)<|(.cons (.str _ _ (by kernel_rfl) (by decide))<|.cons (.str _ _ (by kernel_rfl) (by decide))<|.cons (.str _ _ (by kernel_rfl) (by decide)) .nil)
end
end Lq
end
end Internal
open Internal PySem PySem.W PyProof.Rows Internal.Mv
set_option maxHeartbeats 8000000
set_option tactic.hygienic true in
theorem PySem.Challenge.cw_uf010005_07_holds : PySem.Challenge.rw_uf010005_07.Holds :=
 Hq.hd (by
 intro w gD aM mg mb SD No fa o pm cd doc dV kV ho hd hcd hD hmg hg args vals as hpre hlay hrd hwl hlo;have KX:=kIn_of No;have SA:=(Ground.X SD).2;refine Ground.open SD ?_;intro T B D TE TW
 wrow_args hpre hlay hrd hwl hlo
 rename_i S G hlay0 hL hr hl2 w4 w3 l O w0 hL' ra w1 r0 hI hr' hc1 hc2;refine enter_call ?_;have hgl:=GY KX T.g<|Lq.kG w.params
 letI hp:Hp:=⟨aM,w,aM.heap,mg,mb⟩
 refine GA (hp:=hp) (P:=Lq.P) (nss:=Lq.nss) (f:=43) (n:=313) (S:=S) rfl rfl T TE Lq.chkM Lq.chkR Lq.chk Lq.chkBd Lq.chkF (vM T PySem.F.excBase_ValueError Lq.chkC) (HE KX hgl<|Lq.chkA w.params) (D4 KX hgl T.builtins Lq.bootVE<|Lq.chkI w.params) (D2 KX hgl<|Lq.chkT w.params) (Lq.glsOk KX hgl T SA) (by decide) Lq.defAt hmg w1 ?_ (by decide) hg ?_ ?_<|Lq.law_ok S
 .have:S.length<=63:=by exact(Ln [S.length] (.w .x<|.c 63) [Gi (.n .x)<|.n<|.c 63] rfl<|pV.mp hc1)
  exact af this (by decide)
 .intro cls;rfl
 .wrow_post)
