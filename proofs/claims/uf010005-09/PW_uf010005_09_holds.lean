import PyProof.Rows.All
import OpenK.KWalk
import Open.Tree
import Wide.FinOn
import PyProof.DictStraight
import PySem.PyData
import PyProof.SameEqv
import Wide.Seal
import PyProof.DictRoadsH
import PyProof.Rows.TupTab
import PyProof.P3Eq
import PyProof.Rows.RowHeap
import PyProof.Cells
import KE.KEqDict
import KE.KIntText
import PyProof.ZipIter
import PyProof.TupleIter
import PyProof.Rows.ZipGen
import KE.KRevIter
import PyProof.AttrMissSeq
import KE.KDictOf
import PyProof.RaisesMany
import PyProof.EnumStmt
import PyProof.Rows.Range3
import PyProof.DictDisplay
import PyProof.ForAny
import PyProof.NsDelKeeps
import PyProof.Rows.OwnQ
import PyProof.ExcClass3
import KE.KTryMore
import PySem.Challenge.RW_uf010005_09
set_option maxRecDepth 100000
set_option linter.unusedVariables false
set_option linter.unusedSimpArgs false
set_option linter.unusedSectionVars false
set_option Elab.async false
set_option tactic.hygienic false
set_option genSizeOf false
set_option genInjectivity false
set_option genCtorIdx false
set_option bootstrap.genMatcherCode false
namespace Internal
section
abbrev aq:=PySem.Addr->Option Nat
abbrev au:=PySem.Addr->Prop
abbrev av:=PySem.Value->PySem.Shared->Prop
abbrev aw:=List Nat
abbrev ax:=List PySem.Str
abbrev ay:=List PySem.Value
abbrev az:=List PySem.Expr
abbrev aA:=Except PySem.Str
abbrev aB:=List PySem.PyData
abbrev aC:=List (PySem.PyData×PySem.PyData)
section
open PySem PySem.W
namespace Ht
section
variable {tb:String→Option Builtin}{p:Program}{w:World}{n₀:Nat}{ann:Option Value}
noncomputable def runT(tb:String→Option Builtin)(p:Program)(w:World)(n₀:Nat)(ann:Option Value) :Nat→SharedT→Thread→Option SharedT
 | 0,_,_=>none
 | n+1,s,t=>match through t with
  | true=>some s
  | false=>match stepOk n₀ ann t with
   | false=>none
   | true=>match stepT (denote tb) p w s t with
    | some (s',t')=>runT tb p w n₀ ann n s' t'
    | none=>none
theorem run_of:∀{n:Nat}{s s':SharedT}{t:Thread},runT tb p w n₀ ann n s t=some s'→topRun tb p w n₀ ann n s.abs t=some s'.abs
 | 0,_,_,_,h=>by cases h
 | n+1,s,s',t,h=>by
  have h:(match through t with
  | true=>some s
  | false=>match stepOk n₀ ann t with
   | false=>none
   | true=>match stepT (denote tb) p w s t with
    | some (s',t')=>runT tb p w n₀ ann n s' t'
    | none=>none)=some s':=h
  unfold topRun;cases he:through t with
  | true=>rw[he]at h;cases h;rfl
  | false=>rw[he]at h;cases hk:stepOk n₀ ann t with
   | false=>rw[hk]at h;cases h
   | true=>rw[hk]at h;cases hs:stepT (denote tb) p w s t with
    | none=>rw[hs]at h;cases h
    | some r=>obtain⟨s₂,t₂⟩:=r;rw[hs]at h;rw[stepT_spec hs];exact run_of h
noncomputable def load:List Obj→BT→Nat→Option BT
 | [],t,_=>some t
 | o::r,t,n=>match ((t.ins n o).get n).isSome with
  | true=>load r (t.ins n o)<|n+1
  | false=>none
theorem load_ok{life:Life} :∀{l:List Obj}{t t':BT}{n:Nat},load l t n=some t'→absHeap t' (n+l.length) life=⟨((absHeap t n life).objs.toList++l).toArray,life⟩
 | [],t,t',n,h=>by cases h;rw[List.append_nil];rfl
 | o::r,t,t',n,h=>by
  have h:(match ((t.ins n o).get n).isSome with
  | true=>load r (t.ins n o)<|n+1
  | false=>none)=some t':=h
  cases hg:((t.ins n o).get n).isSome with
  | false=>rw[hg]at h;cases h
  | true=>
   rw[hg]at h;have:=load_ok (life:=life) h;rw[absHeap_ins hg]at this;rw[show n+(o::r).length=n+1+r.length by simp[Nat.add_comm,Nat.add_left_comm],this];congr 1;show(((absHeap t n life).objs.push o).toList++r).toArray=_
   rw[Array.toList_push,List.append_assoc];rfl
noncomputable def endsT(tb:String→Option Builtin)(p:Program)(w:World)(N:Nat) :Option Shared:=
 match fencedOpening tb p w N with
 | none=>none
 | some s₀=>match s₀.heap.isNs mainGlobals&&s₀.gens.size==0 with
  | false=>none
  | true=>match load s₀.heap.objs.toList .nil 0 with
   | none=>none
   | some t₀=>match runT tb p w s₀.heap.objs.size (s₀.heap.nsMap mainGlobals "__annotations__") N ⟨t₀,0+s₀.heap.objs.toList.length,s₀.heap.life,s₀.gens,s₀.drawn,s₀.toks,s₀.os⟩ (topStub p) with
    | none=>none
    | some s=>match staticsOk (importedModules p.main.body) s₀.heap s.abs.heap&&namesBound p s.abs.heap&&gensDone s.abs&&laidKept s₀.heap s.abs.heap with
     | true=>some s.abs
     | false=>none
set_option tactic.hygienic true in
theorem ends_of{N:Nat}{s₁:Shared}(h:endsT tb p w N=some s₁) :openEnds tb p w N=some s₁:=by unfold endsT at h;unfold openEnds;cases hf:fencedOpening tb p w N with
 | none=>rw[hf]at h;cases h
 | some s₀=>
  rw[hf]at h;show topFrom tb p w N s₀=some s₁
  unfold topFrom;dsimp only at h;cases hc:s₀.heap.isNs mainGlobals&&s₀.gens.size==0 with
  | false=>rw[hc]at h;cases h
  | true=>rw[hc]at h;dsimp only at h ⊢;cases hl:load s₀.heap.objs.toList .nil 0 with
   | none=>rw[hl]at h;cases h
   | some t₀=>
    rw[hl]at h;dsimp only at h;split at h
    .cases h
    .rename_i s hr;have hr:=run_of hr;have e:SharedT.abs ⟨t₀,0+s₀.heap.objs.toList.length,s₀.heap.life,s₀.gens,s₀.drawn,s₀.toks,s₀.os⟩=s₀:=by unfold SharedT.abs;dsimp only;rw[load_ok hl];rfl
     rw[e]at hr;rw[hr];exact h
end
theorem leftT{p q:Program}{loose:ax}{Xt:Shared→Bool}{α:Type}{Yf:Shared→α}{Ya:World→α}{N:Nat}{g0:Bool}
  (h:∀w,(endsT treeTable p w N).map (fun s=>(openSeen q loose (importedModules p.main.body) Xt g0 s,Yf s))=some (openGood q loose,Ya w)) :LeftO p q loose Xt Yf Ya N g0:=fun w=>by
 obtain⟨s,e,e'⟩:=Option.map_eq_some_iff.mp<|h w;rw[ends_of e];exact congrArg some e'
end Ht
end
section
open PySem PySem.W PyProof.Rows
set_option maxHeartbeats 8000000
namespace Hq
abbrev row:=PySem.Challenge.rw_uf010005_09.row
abbrev p:Program:=RowW.prog<|OpenRow.toRowW row
noncomputable def view:Program:= {p with main:= {p.main with body:=[1,2,3,4,5,6,7,8,9,11,12,13,14,16,17,18,19,20,21,22,23,25,26,27,28,30,31,32,33,34,36,37,39,40,41,42,43,44,45,46,47,48].filterMap fun i=>p.main.body[i]?}}
noncomputable def loose:ax:=[Str.ofString "GREAT"]
noncomputable def lv:List (Str × WData):=[(Str.ofString "GREAT",WData.int 1000000000000000000)]
noncomputable abbrev ks(x:String)(n:Nat) :Value:=.str (Str.ofString x) n
noncomputable abbrev kd(P:Params)(l:List (String × Nat × Value))(n:Nat) :Obj:= {cls:=.type "dict",data:=.dict (l.map fun x=> {hash:=PyData.keyHash P (Str.ofString x.1),key:=ks x.1 x.2.1,val:=x.2.2}).toArray n}
noncomputable abbrev kc(nm:String)(bs m:ay)(i:Nat)(j t:Nat)(sb:ay) :Obj:= {cls:=.type "type",data:=.cls {name:=Str.ofString nm,bases:=bs,mro:=.ref i :: (m ++ [.type "ValueError",.type "Exception",.type "BaseException",.type "object"]),ns:=i-1,qualname:=Str.ofString nm,subclasses:=sb},slots:=#[some (.ref j),none,some (ks nm t),some (ks nm (t+8)),some (.builtin "ValueError.__new__"),some (.bool true)]}
noncomputable abbrev kx(P:Params)(nm:String)(j t:Nat)(n:Int) :Frag:=[(j+8,kd P [("__module__",t+7,ks "halfrun.errors" 187),("__firstlineno__",t+11,.int n (t+10)),("__static_attributes__",t+12,.ref (j+7)),("__doc__",t+13,.none)] 2),(j+9,kc nm [.ref 24] [.ref 24] (j+9) j t [])]
noncomputable abbrev kt(l:List (String × Nat)) :Obj:= {cls:=.type "tuple",data:=.seq (l.map fun x=>ks x.1 x.2).toArray}
noncomputable def K:Params→Frag:=fun P=>[(3,kd P [("__name__",165,ks "law_uf010005_09" 700),("__doc__",166,.none),("__package__",167,.none),("__loader__",168,.builtin "__main__.__loader__#opaque"),("__spec__",169,.none),("__annotations__",170,.ref 6),("__builtins__",171,.ref 4),("__file__",173,ks "/claim/cut.py" 172),("__cached__",174,.none),("HalfError",206,.ref 24),("NoNumber",222,.ref 37),("NoList",238,.ref 49),("NoFirst",254,.ref 61),("NoDown",270,.ref 73),("ByNought",286,.ref 85),("TooGreat",302,.ref 97),("TooLong",318,.ref 109),("NotKept",334,.ref 121),("GREAT",340,.int 1000000000000000000 339),("HEAVIEST",342,.int 50 341),("room_left",353,.ref 130),("is_value",360,.ref 137),("SINGLES",367,.ref 138),("refuse",374,.ref 145),("fitting",381,.ref 152),("number_done",390,.ref 159),("down",397,.ref 166),("list_done",405,.ref 173),("joined",413,.ref 180),("done",421,.ref 187),("TAME",427,.ref 188),("calls_in",437,.ref 195),("is_tame",445,.ref 202),("keeps",451,.ref 207),("worked_out",462,.ref 214),("Making",556,.ref 269),("worked",570,.ref 280),("left_over",579,.ref 287),("cases",588,.ref 294),("Machine",689,.ref 353),("run",699,.ref 364),("_law_cell_at",709,.ref 371),("_law_same",718,.ref 378),("_law_names",724,.ref 383),("_law_power",734,.ref 390),("_law_sum",745,.ref 397),("_law_told",754,.ref 404),("_law_of_power",760,.ref 409),("_law_of_sum",779,.ref 416),("_law_count",795,.ref 423),("law",808,.ref 430)] 51),(23,kd P [("__module__",196,ks "halfrun.errors" 187),("__firstlineno__",200,.int 2 199),("__static_attributes__",201,.ref 22),("__weakref__",203,.ref 25),("__doc__",204,.none)] 3),(24,kc "HalfError" [.type "ValueError"] [] 24 15 189 [.ref 37,.ref 49,.ref 61,.ref 73,.ref 85,.ref 97,.ref 109,.ref 121])] ++ kx P "NoNumber" 28 207 4 ++ kx P "NoList" 40 223 6 ++ kx P "NoFirst" 52 239 8 ++ kx P "NoDown" 64 255 10 ++ kx P "ByNought" 76 271 12 ++ kx P "TooGreat" 88 287 14 ++ kx P "TooLong" 100 303 16 ++ kx P "NotKept" 112 319 18 ++ [(138,kt [("down",363),("first",364),("rest",365),("empty",366)]),(188,kt [("first",424),("rest",425),("down",426)])]
noncomputable def K_as:List Addr:=[3,23,24,36,37,48,49,60,61,72,73,84,85,96,97,108,109,120,121,138,188]
theorem K_eq:∀P,K_as=(K P).map (·.1):=fun j0_=>by kernel_rfl
noncomputable abbrev H:Hook:=kHook K K_as K_eq
theorem left:LeftO p view loose (fun s=>xlAt view lv s&&recOk (RowW.records<|OpenRow.toRowW row) s) (Hook.obs H) (Hook.val H) 20000:=Ht.leftT fun w=>by kernel_rfl
theorem said:PySem.Challenge.rw_uf010005_09.wellSaid=true:=by kernel_rfl
end Hq
end
section
open PySem PySem.W PyProof.Rows
set_option maxHeartbeats 8000000
namespace Hq
theorem isd:(defOf view (OpenRow.toRowW row).name).isSome=true:=by kernel_rfl
noncomputable abbrev dk:DefRec×List (Str×Expr):=(defOf view (OpenRow.toRowW row).name).get isd
theorem hdef:defOf view row.name=some (dk.1,dk.2):=(Option.some_get isd).symm
theorem hp:row.prog.theDef row.name=some (dk.1.params,dk.1.body,dk.1.scope):=by kernel_rfl
theorem hk:kwWritten? dk.1.params.kwonlyargs dk.1.params.kw_defaults=some dk.2:=by kernel_rfl
theorem hok:(chainsOk view&&opensWell row.prog&&(frees row.toRowW&&row.within.isEmpty))=true:=by kernel_rfl
theorem hbare:row.prog.bare:=⟨rfl,rfl,rfl,rfl,rfl,by decide +kernel⟩
theorem hw:row.toRowW.promised:=by w_witness2
theorem hwr:(!row.writes||row.records.isEmpty)=true:=by kernel_rfl
theorem hd(call:WalkO view loose (XL view lv) (Hook.says H) row.toRowW dk.1 dk.2 fun f vs=>PySem.call f vs) :PySem.Challenge.rw_uf010005_09.Holds:=
 holds_law said fun k1=>holds_open (q:=view) (loose:=loose) (Xt:=fun s=>xlAt view lv s&&recOk (RowW.records<|OpenRow.toRowW row) s) (XP:=XL view lv) (Yf:=Hook.obs H) (Ya:=Hook.val H) (YP:=Hook.says H) (N:=20000)
  left (Hook.of H) (Hook.keeps H) (fun s e=>xl_of s (Bool.and_eq_true_iff.mp e).1) XL.keeps hdef hp hk (fun s e=>recFacts_of (Bool.and_eq_true_iff.mp e).2) hwr k1 hok hbare hw call
end Hq
end
section
set_option backward.match.sparseCases false
namespace Mv
open PySem
noncomputable abbrev D:=PyData
noncomputable abbrev Sz:Nat:=16777216
noncomputable abbrev Wz:Nat:=1208925819614629174706176
theorem hid2{α:Sort u}{β:Sort v}(P:α→β→Prop){c:Prop}(k:∀J:α→β→Prop,(∀a b,J a b→P a b)→(∀a b,P a b→J a b)→c) :c:=k P (fun j0_ j1_ h=>h) fun j0_ j1_ h=>h
theorem hidG{p:Prop}(h:∀G:Prop,(p→G)→G) :p:=h p id
theorem ex1{α:Sort u}{p:α→Prop}{c:Prop}(h:∃a,p a)(k:∀a,p a→c) :c:=h.elim k
theorem ex2{α:Sort u}{β:Sort v}{p:α→β→Prop}{c:Prop}(h:∃a b,p a b)(k:∀a b,p a b→c) :c:=h.elim fun a h=>h.elim<|k a
theorem ex3{α:Sort u}{β:Sort v}{γ:Sort w}{p:α→β→γ→Prop}{c:Prop}(h:∃a b d,p a b d)(k:∀a b d,p a b d→c) :c:=h.elim fun a h=>ex2 h<|k a
theorem ex4{α:Sort u}{β:Sort v}{γ:Sort w}{δ:Sort x}{p:α→β→γ→δ→Prop}{c:Prop}(h:∃a b d e,p a b d e)(k:∀a b d e,p a b d e→c) :c:=h.elim fun a h=>ex3 h<|k a
@[elab_as_elim] theorem O{α:Sort u}{a b:α}{ah:α→Prop}(h:a=b)(m:ah b) :ah a:=h▸m
set_option genCtorIdx true in
inductive Slot where | no | fz(d:D) | ai(d:D) | tab(X:aC)
inductive Pl where | var(i:Nat)
set_option genCtorIdx true in
inductive Rv where | fz(d:D) | ai(d:D) | pl(p:Pl)
noncomputable abbrev Fm:=List Slot
noncomputable abbrev Out(α:Type):=Option<|aA α×Fm
class Kt(α β:Type) where
 run:α→Fm→Out β
noncomputable def bnd{α β:Type}(m:Out α)[k:Kt α β] :Out β:=
 match m with
 | none=>none
 | some (.error e,Y)=>some (.error e,Y)
 | some (.ok a,Y)=>k.run a Y
noncomputable abbrev bndK{α β:Type}(m:Out α)(k:α→Fm→Out β) :Out β:=@bnd α β m ⟨k⟩
theorem bnd_ok{α β:Type}(a:α)(Y:Fm)(k:α→Fm→Out β) : @bnd α β (some (.ok a,Y)) ⟨k⟩=k a Y:=by rfl
set_option genCtorIdx true in
inductive Op2 where | add | sub | mul | fdiv | mod | pow
set_option genCtorIdx true in
inductive Cm where | eq | ne | lt | gt | ge | isin | nel
set_option genCtorIdx true in
inductive Ty where | tup | int | bool | str
inductive Bi where
 | len | isi (t:Ty) | abs | int | tuple | list | str
 | count | dzip | dict0 | disp (ks:ax) | dis1
set_option genCtorIdx true in
inductive Itk where | seq | range | zip | enum | rev | range3
inductive Tgt where | one(i:Nat) | tup(is:aw)
inductive Ex where
 | lit (d:D)
 | gl (k:Nat)
 | var (i:Nat)
 | pl (p:Pl)
 | tup (es:List Ex)
 | list (es:List Ex)
 | op2 (o:Op2) (a b:Ex)
 | neg (a:Ex)
 | not (a:Ex)
 | cmp (o:Cm) (a b:Ex)
 | cmp2 (o p:Cm) (a b c:Ex)
 | bo (j:Bool) (es:List Ex)
 | ite (c a b:Ex)
 | idx (a i:Ex)
 | slc (a lo hi:Ex)
 | call (f:Nat) (args:List Ex)
 | bi (b:Bi) (args:List Ex)
 | comp (elt:Ex) (t:Tgt) (it:Itk) (src:List Ex) (conds:List Ex)
 | mcall (f:Nat) (as:aw) (args:List Ex)
 | tin (i:Nat) (e:Ex)
 | tget (i:Nat) (e:Ex)
 | pop (p:Pl)
inductive St where
 | asg (t:Tgt) (e:Ex)
 | setI (p:Pl) (i e:Ex)
 | app (p:Pl) (e:Ex)
 | exp (e:Ex)
 | iff (c:Ex) (a b:List St)
 | ret (e:Ex)
 | for_ (t:Tgt) (it:Itk) (src:List Ex) (body:List St) (tmp:aw)
 | whl (t:Ex) (body:List St) (tmp:aw)
 | new (f:Nat) (as:aw) (args:List Ex) (body:List St)
 | raise (c:Str)
 | tryx (body:List St) (hs:List (Str×ax×D))
 | rev (p:Pl)
 | mst (f:Nat) (as rb:aw) (args:List Ex)
 | tab0 (i:Nat)
 | tset (i:Nat) (k e:Ex)
 | no
set_option genCtorIdx true in
inductive Ctl where | next | ret(r:Rv)
noncomputable def mulOk(a b:Int) :Bool:=decide (a.natAbs<2 ^ 64)||decide (b.natAbs<2 ^ 64)
noncomputable def mulI(a b:Int) :Option Rv:=if mulOk a b=true then some (.fz<|.int<|a*b) else none
noncomputable def rep(n:Int)(M:List α) :List α:=(List.replicate n.toNat M).flatten
noncomputable def mulT(a:aB)(n:Int) :Option Rv:=if n=1 then some (.fz<|.tuple a) else if n=0 then some (.fz<|.tuple []) else none
noncomputable def op2:Op2→D→D→Option Rv
 | .add,.int a,.int b=>some<|.fz<|.int<|a+b
 | .add,.str a,.str b=>if a.cps.size+b.cps.size≤Sz then some (.fz<|.str ⟨a.cps++b.cps⟩) else none
 | .add,.tuple a,.tuple b=>if a.length+b.length≤Sz then some (.fz<|.tuple<|a++b) else none
 | .add,.list a,.list b=>if a.length+b.length≤Sz then some (.ai<|.list<|a++b) else none
 | .sub,.int a,.int b=>some<|.fz<|.int<|a - b
 | .mul,.int a,.int b=>mulI a b
 | .mul,.str a,.int n=>if -1000000000≤n∧n≤1000000000∧a.cps.size*n.toNat≤Sz then some (.fz<|.str ⟨(rep n a.cps.toList).toArray⟩) else none
 | .mul,.tuple a,.int n=>if a.length=1 then mulT a n else none
 | .fdiv,.int a,.int b=>if b≠0∧b.natAbs<2 ^ 64 then some (.fz<|.int<|a.fdiv b) else none
 | .mod,.int a,.int b=>if b=0 then none else some (.fz<|.int<|a.fmod b)
 | .pow,.int a,.int n=>if 0≤n∧n≤1000∧a.natAbs<2 ^ 64 then some (.fz<|.int<|a ^ n.toNat) else none
 | _,_,_=>none
mutual
noncomputable def noDict:D→Bool
 | .none | .bool _ | .int _ | .str _=>true
 | .list M | .tuple M=>noDicts M
 | .dict _=>false
noncomputable def noDicts:aB→Bool
 | []=>true
 | x::M=>noDict x&&noDicts M
end
noncomputable def eqOk(a b:D) :Bool:=noDict a&&noDict b&&decide (min a.depth b.depth≤64)
noncomputable def eqD:D→D→Option Bool
 | .int a,.int b=>some<|a==b
 | .str a,.str b=>some<|a.cps.toList==b.cps.toList
 | .bool a,.bool b=>some<|a==b
 | a,b=>if eqOk a b then some (PyData.eqv a b) else none
noncomputable def anyEq(x:D) :aB→Option Bool
 | []=>some false
 | y::ys=>match eqD y x with
  | none=>none
  | some b=>match anyEq x ys with
   | none=>none
   | some c=>some<|b||c
noncomputable def dgetL:aC→Str→Option D
 | (.str k,d)::r,x=>if k=x then some d else dgetL r x
 | _::r,x=>dgetL r x
 | [],_=>none
noncomputable def dmapL:aC→Str→D→aC
 | (.str k,d)::r,x,e=>(.str k,if k=x then e else d)::dmapL r x e
 | p::r,x,e=>p::dmapL r x e
 | [],_,_=>[]
noncomputable def dsetL(l:aC)(x:Str)(e:D) :aC:=if (dgetL l x).isSome then dmapL l x e else l++[(.str x,e)]
noncomputable def distinct:ax→Nat
 | []=>0
 | x::r=>if r.contains x then distinct r else distinct r+1
noncomputable def dofL:aC→aB→Option (List<|D×D)
 | am,[]=>some am
 | am,.tuple [.str k,v]::r=>dofL (dsetL am k v) r
 | _,_::_=>none
noncomputable def inD(x:D) :D→Option Bool
 | .tuple M=>if noDict x then anyEq x M else none
 | .list M=>if noDict x then anyEq x M else none
 | .dict kvs=>match x with
  | .str k=>some (dgetL kvs k).isSome
  | _=>none
 | _=>none
noncomputable def ltD:D→D→Option Bool
 | .int a,.int b=>some<|decide<|a<b
 | _,_=>none
noncomputable def leD:D→D→Option Bool
 | .int a,.int b=>some<|decide<|a≤b
 | _,_=>none
noncomputable def ninD(x:D) :D→Option Bool
 | .list M=>(inD x<|.list M).map (!·)
 | _=>none
noncomputable def nelD:D→D→Option Bool
 | .list M,.list []=>some<|!M.isEmpty
 | _,_=>none
noncomputable def cmpD(o:Cm)(a b:D) :Option Bool:=match o with
 | .eq=>eqD a b
 | .ne=>(eqD a b).map (!·)
 | .lt=>ltD a b
 | .gt=>ltD b a
 | .ge=>leD b a
 | .isin=>inD a b
 | .nel=>nelD a b
noncomputable def tD:D→Bool
 | .none=>false
 | .bool b=>b
 | .int i=>i != 0
 | .str s=>s.cps.size != 0
 | .list M=>!M.isEmpty
 | .tuple M=>!M.isEmpty
 | .dict kvs=>!kvs.isEmpty
noncomputable def negD:D→Option D
 | .int a=>some<|.int<|-a
 | _=>none
noncomputable def idxOf(M:List α)(i:Int) :Option α:=if 0≤i then M[i.toNat]? else none
noncomputable def idxT(M:List α)(i:Int) :Option α:=if i = -1 then M.getLast? else idxOf M i
noncomputable def idxD:D→D→Option D
 | .list M,.int i=>idxOf M i
 | .tuple M,.int i=>idxT M i
 | .str s,.int i=>(idxOf s.cps.toList i).map fun c=>.str ⟨#[c]⟩
 | .dict kvs,.str k=>dgetL kvs k
 | _,_=>none
noncomputable def slcD:D→D→D→Option Rv
 | .tuple (_::X),.int i,.none=>if i=1 then some (.fz<|.tuple X) else none
 | .list X,.int i,.int j=>if 0≤i∧i≤j∧j≤1000 then some (.ai<|.list<|(X.drop i.toNat).take (j - i).toNat) else none
 | _,_,_=>none
noncomputable def isiD:Ty→D→Bool
 | .tup,.tuple _=>true
 | .int,.int _=>true
 | .int,.bool _=>true
 | .bool,.bool _=>true
 | .str,.str _=>true
 | _,_=>false
noncomputable def lenD:D→Option Nat
 | .list M=>some M.length
 | .tuple M=>some M.length
 | _=>none
noncomputable def zipL:aB→aB→aB
 | x::M,z::zs=>.tuple [x,z]::zipL M zs
 | _,_=>[]
noncomputable def enumL:Nat→aB→aB
 | _,[]=>[]
 | k,x::M=>.tuple [.int k,x]::enumL (k+1) M
noncomputable def natS(n:Nat) :aw:=(Nat.toDigits 10 n).map Char.toNat
noncomputable def dispL:ax→aB→aC
 | k::ks,d::X=>(.str k,d)::dispL ks X
 | _,_=>[]
mutual
noncomputable def keyD:D→Bool
 | .int _ | .str _=>true
 | .tuple M=>keyDs M
 | _=>false
noncomputable def keyDs:aB→Bool
 | []=>true
 | x::M=>keyD x&&keyDs M
end
noncomputable def keyOk:D→Bool
 | .tuple M=>keyDs M&&decide (PyData.depthAll M<8)
 | _=>false
noncomputable def tabGet(k:D) :aC→Option D
 | []=>none
 | p::r=>if PyData.eqv p.1 k=true then some p.2 else tabGet k r
noncomputable def strsOf:aB→Option ax
 | []=>some []
 | .str x::r=>(strsOf r).map (x :: ·)
 | _::_=>none
noncomputable def popD:D→Option D
 | .list M=>match M.getLast? with
  | some d=>some<|.tuple [.list M.dropLast,d]
  | none=>none
 | _=>none
noncomputable def popV:D→Option (aB×D)
 | .tuple [.list ys,d]=>some (ys,d)
 | _=>none
noncomputable def revD:D→Option D
 | .list M=>some<|.list M.reverse
 | _=>none
noncomputable def biD:Bi→aB→Option Rv
 | .len,[a]=>(lenD a).map fun(n:Nat)=>.fz<|.int n
 | .isi t,[a]=>some<|.fz<|.bool<|isiD t a
 | .abs,[.int a]=>some<|.fz<|.int a.natAbs
 | .int,[.bool b]=>some<|.fz<|.int (if b then 1 else 0)
 | .tuple,[.list M]=>some<|.fz<|.tuple M
 | .tuple,[.tuple M]=>some<|.fz<|.tuple M
 | .list,[.tuple M]=>some<|.ai<|.list M
 | .count,[.list M,.str x]=>(strsOf M).map fun bs=>.fz<|.int (bs.count x:Nat)
 | .str,[.int<|.ofNat n]=>if n<10 ^ 18∧(natS n).length≤20 then some (.fz<|.str ⟨(natS n).toArray⟩) else none
 | .dict0,[]=>some<|.ai<|.dict []
 | .dis1,[.str k,v]=>some<|.ai<|.dict [(.str k,v)]
 | .disp ks,X=>if ks.length=X.length then some (.ai<|.dict<|dispL ks X) else none
 | .dzip,[.list ks,.tuple vs]=>if ks.length≤1000 then(dofL []<|zipL ks vs).map fun kvs=>.ai (.dict kvs) else none
 | .dzip,[.tuple ks,.tuple vs]=>if ks.length≤1000 then(dofL []<|zipL ks vs).map fun kvs=>.ai (.dict kvs) else none
 | .dzip,[.tuple ks,.list vs]=>if ks.length≤1000 then(dofL []<|zipL ks vs).map fun kvs=>.ai (.dict kvs) else none
 | _,_=>none
noncomputable def rangeL(a:Int)(n:Nat) :aB:=(List.range n).map fun(k:Nat)=>.int<|a+k
noncomputable def iterD:Itk→aB→Option aB
 | .seq,[.list M]=>some M
 | .seq,[.tuple M]=>some M
 | .range,[.int n]=>if -1000000000≤n∧n≤Sz then some (rangeL 0 n.toNat) else none
 | .zip,[.tuple M,.tuple zs]=>some<|zipL M zs
 | .enum,[.list M]=>some<|enumL 0 M
 | .rev,[.tuple M]=>some M.reverse
 | .range3,[.int a,.int b,.int e]=>if a=3∧b = -1∧e = -1 then some [.int 3,.int 2,.int 1,.int 0] else none
 | _,_=>none
noncomputable def plGet(Y:Fm) :Pl→Option D
 | .var i=>match Y[i]? with
  | some (.fz d)=>some d
  | some (.ai d)=>some d
  | _=>none
noncomputable def Slot.live:Slot→Bool
 | .no=>false
 | _=>true
noncomputable def plLive(Y:Fm) :Pl→Bool
 | .var i=>match Y[i]? with
  | some sl=>sl.live
  | none=>false
noncomputable def plOwn(Y:Fm) :Pl→Option D
 | .var i=>match Y[i]? with
  | some (.ai d)=>some d
  | _=>none
noncomputable def plSet(Y:Fm)(p:Pl)(d:D) :Fm:=match p with
 | .var i=>Y.set i<|.ai d
noncomputable def rvD(Y:Fm) :Rv→Option D
 | .fz d=>some d
 | .ai d=>some d
 | .pl p=>plGet Y p
noncomputable def rvV:Rv→Option D
 | .fz d=>some d
 | .ai d=>some d
 | .pl _=>none
noncomputable def rvDs(Y:Fm) :List Rv→Option aB
 | []=>some []
 | r::rs=>match rvD Y r,rvDs Y rs with
  | some d,some X=>some (d::X)
  | _,_=>none
noncomputable def rvVs:List Rv→Option aB
 | []=>some []
 | r::rs=>match rvV r,rvVs rs with
  | some d,some X=>some (d::X)
  | _,_=>none
noncomputable def clr(Y:Fm) :aw→Fm
 | []=>Y
 | i::is=>clr (Y.set i .no) is
noncomputable def asgs(pin:aw)(Y:Fm) :aw→aB→Option Fm
 | [],[]=>some Y
 | i::is,d::X=>if pin.contains i then none else asgs pin (Y.set i<|.fz d) is X
 | _,_=>none
noncomputable def asgT(pin:aw)(Y:Fm)(t:Tgt)(r:Rv) :Option Fm:=match t with
 | .one i=>if pin.contains i then none else match r with
  | .fz d=>some<|Y.set i<|.fz d
  | .ai d=>some<|Y.set i<|.ai d
  | .pl _=>none
 | .tup is=>match rvV r with
  | some (.tuple X)=>asgs pin Y is X
  | _=>none
noncomputable def tgtVars:Tgt→aw
 | .one i=>[i]
 | .tup is=>is
noncomputable def bndC{α β:Type}(cl:aw)(m:Out α)[k:Kt α β] :Out β:=
 match m with
 | none=>none
 | some (.error e,Y)=>some (.error e,clr Y cl)
 | some (.ok a,Y)=>k.run a Y
noncomputable abbrev bndCK{α β:Type}(cl:aw)(m:Out α)(k:α→Fm→Out β) :Out β:=@bndC α β cl m ⟨k⟩
noncomputable def argSlots(Y:Fm) :List Rv→Option (List Slot)
 | []=>some []
 | r::rs=>match (match r with
   | .fz d=>some<|Slot.fz d
   | .ai d=>some<|.fz d
   | .pl (.var i)=>(match Y[i]? with
    | some (.fz d)=>some<|.fz d
    | some (.ai d)=>some<|.ai d
    | _=>none)),argSlots Y rs with
  | some s,some ss=>some (s::ss)
  | _,_=>none
noncomputable def Slot.lent:Slot→Bool
 | .fz _=>false
 | .no=>false
 | _=>true
noncomputable def roots:List Rv→aw
 | []=>[]
 | .pl (.var i)::rs=>i::roots rs
 | _::rs=>roots rs
noncomputable def copyOut(Y:Fm) :List Rv→List Slot→List Slot→Fm
 | r::rs,s::ss,outs=>if s.lent then(match outs with
   | o::os=>(match r with
    | .pl (.var i)=>copyOut (Y.set i o) rs ss os
    | _=>copyOut Y rs ss os)
   | []=>Y) else copyOut Y rs ss outs
 | _,_,_=>Y
noncomputable def outsOf:List Slot→Fm→List Slot
 | [],_=>[]
 | s::ss,Y=>if s.lent then Y.headD .no::outsOf ss Y.tail else outsOf ss Y.tail
noncomputable def pinsOf:Nat→List Slot→aw
 | _,[]=>[]
 | k,s::ss=>if s.lent then k::pinsOf (k+1) ss else pinsOf (k+1) ss
noncomputable def atsOf(Y:Fm)(as:aw) :List Slot:=as.map fun i=>(Y[i]?).getD .no
noncomputable def setAts(Y:Fm) :aw→List Slot→Fm
 | [],_=>Y
 | _::_,[]=>Y
 | i::is,s::ss=>setAts (Y.set i s) is ss
noncomputable def outsM(na:Nat)(args:List Slot)(Y:Fm) :List Slot:=atsOf Y (List.range na)++outsOf (args.drop na) (Y.drop na)
noncomputable def pinsM(na:Nat)(rb:aw)(args:List Slot) :aw:=((List.range na).filter fun k=>!rb.contains k)++pinsOf na (args.drop na)
noncomputable def isN:aA Rv→Bool
 | .ok (.fz .none)=>true
 | _=>false
noncomputable def nx(as:aw) :aw:=(as.getLast?.getD 0+1)::as
noncomputable def newAts(as:aw) :List Slot:=as.map fun j0_=>.no
structure Cfg where
 glob:aB
 call:Nat→List Slot→Option (aA Rv×List Slot)
 pin:aw
noncomputable def sqE(m:Fm→Out Ctl)(k:Ctl)(Y:Fm) :Out Ctl:=match k with
 | .next=>m Y
 | .ret r=>some (.ok<|.ret r,Y)
noncomputable def cpE(r:Option D)(rs:aB)(Y:Fm) :Out aB:=match r with
 | none=>some (.ok rs,Y)
 | some x=>some (.ok (x::rs),Y)
noncomputable def compL[f:Kt D (Option D)](cl:aw) :aB→Fm→Out aB
 | [],Y=>some (.ok [],clr Y cl)
 | d::X,Y=>bndK (f.run d<|clr Y cl) fun r Y=>bndK (compL (f:=f) cl X Y)<|cpE r
noncomputable def forL[f:Kt D Ctl](cl:aw) :aB→Fm→Out Ctl
 | [],Y=>some (.ok .next,clr Y cl)
 | d::X,Y=>bndK (f.run d<|clr Y cl)<|sqE<|forL (f:=f) cl X
noncomputable def whL[t:Kt Unit Bool][f:Kt Unit Ctl](cl:aw) :Nat→Fm→Out Ctl
 | 0,_=>none
 | n+1,Y=>bndK (t.run ()<|clr Y cl) fun b Y=>match b with
  | true=>bndK (f.run () Y)<|sqE<|whL (t:=t) (f:=f) cl n
  | false=>some (.ok .next,Y)
noncomputable def mo{α β:Type}(x:Option α)(g:α→Out β) :Out β:=match x with
 | none=>none
 | some a=>g a
noncomputable def okO{α:Type}(Y:Fm) :Option α→Out α
 | none=>none
 | some a=>some (.ok a,Y)
noncomputable def callM(c:Cfg)(f:Nat)(as:aw)(rs:List Rv)(Y:Fm) :Out Rv:=
 mo (argSlots Y rs) fun ss=>if (as++roots rs).Nodup then mo (c.call f<|atsOf Y as++ss) fun o=>
  bndK (some (o.1,copyOut (setAts Y as o.2) rs ss<|o.2.drop as.length)) fun r Y=>mo (rvV r) fun j0_=>some (.ok r,Y) else none
noncomputable def tabAt(o:Option Slot) :Option (List<|D×D):=match o with
 | some (.tab X)=>some X
 | _=>none
noncomputable def okV(Y:Fm) :Option Rv→Out Rv
 | none=>none
 | some (.fz d)=>some (.ok<|.fz d,Y)
 | some (.ai d)=>some (.ok<|.ai d,Y)
 | some (.pl _)=>none
theorem len1{α:Type}{l:List α}(h:l.length=1) :∃a,l=[a]:=by cases l with
 | nil=>exact nomatch h
 | cons a l=>cases l with
  | nil=>exact⟨a,rfl⟩
  | cons b l=>exact nomatch Nat.succ.inj h
theorem len2{α:Type}{l:List α}(h:l.length=2) :∃a b,l=[a,b]:=by cases l with
 | nil=>exact nomatch h
 | cons a l=>exact ex1 (len1<|Nat.succ.inj h) fun b e=>⟨a,b,congrArg _ e⟩
theorem len3{α:Type}{l:List α}(h:l.length=3) :∃a b c,l=[a,b,c]:=by cases l with
 | nil=>exact nomatch h
 | cons a l=>exact ex2 (len2<|Nat.succ.inj h) fun b c e=>⟨a,b,c,congrArg _ e⟩
theorem nos{α:Type}{r:α}{p:Prop}(h:none=some r) :p:=nomatch h
theorem sos{α:Type}{a r:α}(h:some a=some r) :a=r:=Option.some.inj h
theorem oki{α ε:Type}{a b:α}(h:(Except.ok a:Except ε α) = .ok b) :a=b:=Except.ok.inj h
theorem erk{α ε:Type}{a:α}{e:ε}{p:Prop}(h:(Except.ok a:Except ε α) = .error e) :p:=nomatch h
theorem kre{α ε:Type}{a:α}{e:ε}{p:Prop}(h:(Except.error e:Except ε α) = .ok a) :p:=nomatch h
theorem okp{α:Type}{a b:α}{f g:Fm}(h:some ((Except.ok a:aA α),f)=some (.ok b,g)) :a=b∧f=g:=⟨oki (Prod.mk.inj<|sos h).1,(Prod.mk.inj<|sos h).2⟩
theorem ifs{α:Type}{c:Prop}[Decidable c]{a r:α}(h:(if c then some a else none)=some r) :c∧a=r:=by
 by_cases q:c
 .rw[if_pos q]at h;exact⟨q,sos h⟩
 .rw[if_neg q]at h;exact nos h
theorem ifx{α:Type}{c:Prop}[Decidable c]{a:Option α}{r:α}(h:(if c then a else none)=some r) :c∧a=some r:=by
 by_cases q:c
 .rw[if_pos q]at h;exact⟨q,h⟩
 .rw[if_neg q]at h;exact nos h
theorem ify{α:Type}{c:Prop}[Decidable c]{a:Option α}{r:α}(h:(if c then none else a)=some r) :¬c∧a=some r:=by
 by_cases q:c
 .rw[if_pos q]at h;exact nos h
 .rw[if_neg q]at h;exact⟨q,h⟩
theorem mo_s{α β:Type}{x:Option α}{g:α→Out β}{o:aA β×Fm}(h:mo x g=some o) :∃a,x=some a∧g a=some o:=by cases x with
 | none=>exact nos h
 | some a=>exact⟨a,rfl,h⟩
theorem mo_e{α β:Type}(a:α)(g:α→Out β) :mo (some a) g=g a:=rfl
theorem okM{α β:Type}{x:Option α}{u:α→β}{Y:Fm}{o:aA β×Fm}(h:okO Y (x.map u)=some o) :∃a,x=some a∧o=(.ok<|u a,Y):=by cases x with
 | none=>exact nos h
 | some a=>exact⟨a,rfl,(sos h).symm⟩
theorem ff{p:Prop}(h:true=false) :p:=nomatch h
theorem tf{p:Prop}(h:false=true) :p:=nomatch h
theorem ifn{α:Type}{c:Prop}[Decidable c]{a r:α}(h:(if c then none else some a)=some r) :¬c∧a=r:=by
 by_cases q:c
 .rw[if_pos q]at h;exact nos h
 .rw[if_neg q]at h;exact⟨q,sos h⟩
noncomputable def varE(s:Option Slot)(Y:Fm)(i:Nat) :Out Rv:=match s with
 | some (.fz d)=>some (.ok<|.fz d,Y)
 | some (.ai d)=>some (.ok<|.fz d,Y.set i<|.fz d)
 | _=>none
noncomputable def retE(r:Rv)(Y:Fm) :Out Ctl:=match r with
 | .pl _=>none
 | r=>some (.ok<|.ret r,Y)
noncomputable def appE(o:Option D)(Y:Fm)(p:Pl)(d:D) :Out Ctl:=match o with
 | some (.list M)=>if M.length<Sz then some (.ok .next,plSet Y p<|.list<|M++[d]) else none
 | _=>none
mutual
noncomputable def ev(c:Cfg) :Ex→Fm→Out Rv
 | .lit d,Y=>some (.ok<|.fz d,Y)
 | .gl k,Y=>mo c.glob[k]? fun d=>some (.ok<|.fz d,Y)
 | .var i,Y=>varE Y[i]? Y i
 | .pl p,Y=>if plLive Y p then some (.ok<|.pl p,Y) else none
 | .tup es,Y=>bndK (evs c es Y) fun rs Y=>okO Y<|(rvVs rs).map fun X=>.fz<|.tuple X
 | .list es,Y=>bndK (evs c es Y) fun rs Y=>okO Y<|(rvVs rs).map fun X=>.ai<|.list X
 | .op2 o a b,Y=>bndK (ev c a Y) fun x Y=>bndK (ev c b Y) fun y Y=>mo (rvD Y x) fun d=>mo (rvD Y y) fun e=>okV Y<|op2 o d e
 | .neg a,Y=>bndK (ev c a Y) fun x Y=>mo (rvV x) fun d=>okO Y<|(negD d).map .fz
 | .not a,Y=>bndK (ev c a Y) fun x Y=>mo (rvD Y x) fun d=>some (.ok<|.fz<|.bool<|!tD d,Y)
 | .cmp o a b,Y=>bndK (ev c a Y) fun x Y=>bndK (ev c b Y) fun y Y=>mo (rvD Y x) fun d=>mo (rvD Y y) fun e=>okO Y<|(cmpD o d e).map fun b=>.fz<|.bool b
 | .cmp2 o p a b e,Y=>bndK (ev c a Y) fun x Y=>bndK (ev c b Y) fun y Y=>mo (rvV x) fun d=>mo (rvV y) fun d'=>mo (cmpD o d d') fun t=>if t=true then bndK (ev c e Y) fun z Y=>mo (rvV z) fun d''=>okO Y ((cmpD p d' d'').map fun b=>.fz<|.bool b)
    else some (.ok<|.fz<|.bool false,Y)
 | .bo j es,Y=>evB c j es Y
 | .ite t a b,Y=>bndK (ev c t Y) fun x Y=>mo (rvV x) fun d=>if tD d then bndK (ev c a Y) fun r Y=>mo (rvV r) fun j0_=>some (.ok r,Y) else bndK (ev c b Y) fun r Y=>mo (rvV r) fun j0_=>some (.ok r,Y)
 | .idx a i,Y=>bndK (ev c a Y) fun x Y=>bndK (ev c i Y) fun y Y=>mo (rvD Y x) fun d=>mo (rvV y) fun e=>okO Y<|(idxD d e).map .fz
 | .slc a lo hi,Y=>bndK (ev c a Y) fun x Y=>bndK (ev c lo Y) fun y Y=>bndK (ev c hi Y) fun z Y=>mo (rvD Y x) fun d=>mo (rvV y) fun l=>mo (rvV z) fun h=>okV Y<|slcD d l h
 | .call f args,Y=>bndK (evs c args Y) fun rs Y=>callM c f [] rs Y
 | .mcall f as args,Y=>bndK (evs c args Y) fun rs Y=>callM c f as rs Y
 | .tin i e,Y=>bndK (ev c e Y) fun r Y=>mo (rvV r) fun k=>mo (tabAt Y[i]?) fun X=>if keyOk k then some (.ok<|.fz<|.bool (tabGet k X).isNone,Y) else none
 | .tget i e,Y=>bndK (ev c e Y) fun r Y=>mo (rvV r) fun k=>mo (tabAt Y[i]?) fun X=>if keyOk k then okO Y ((tabGet k X).map .fz) else none
 | .pop p,Y=>mo (plOwn Y p) fun o=>mo (popD o) fun q=>mo (popV q) fun x=>some (.ok<|.fz x.2,plSet Y p<|.list x.1)
 | .bi b args,Y=>bndK (evs c args Y) fun rs Y=>mo (rvDs Y rs) fun X=>okV Y<|biD b X
 | .comp elt t it src conds,Y=>bndK (evs c src Y) fun rs Y=>mo (rvVs rs) fun X=>mo (iterD it X) fun items=>
   bndCK (tgtVars t) (compL (f:=⟨fun d Y=>mo (asgT c.pin Y t<|.fz d) fun Y=>bndK (evConds c conds Y) fun b Y=>if b then bndK (ev c elt Y) fun r Y=>okO Y ((rvV r).map some) else some (.ok none,Y)⟩) (tgtVars t) items Y)
     fun X Y=>some (.ok<|.ai<|.list X,Y)
noncomputable def evs(c:Cfg) :List Ex→Fm→Out (List Rv)
 | [],Y=>some (.ok [],Y)
 | e::es,Y=>bndK (ev c e Y) fun r Y=>bndK (evs c es Y) fun rs Y=>some (.ok (r::rs),Y)
noncomputable def evB(c:Cfg)(j:Bool) :List Ex→Fm→Out Rv
 | [],_=>none
 | e::es,Y=>bndK (ev c e Y) fun r Y=>mo (rvV r) fun d=>match es with
   | []=>some (.ok r,Y)
   | _::_=>if tD d=j then evB c j es Y else some (.ok r,Y)
noncomputable def evConds(c:Cfg) :List Ex→Fm→Out Bool
 | [],Y=>some (.ok true,Y)
 | e::es,Y=>bndK (ev c e Y) fun r Y=>mo (rvD Y r) fun d=>if tD d then evConds c es Y else some (.ok false,Y)
end
noncomputable def ownL:Option D→Bool
 | some (.list _)=>true
 | _=>false
noncomputable def Tgt.isTup:Tgt→Bool
 | .one _=>false
 | .tup _=>true
noncomputable def setD:D→D→D→Option D
 | .dict kvs,.str k,d=>if kvs.length<Sz then some (.dict<|dsetL kvs k d) else none
 | _,_,_=>none
noncomputable def exH(e:Str) :List (Str×ax×D)→Fm→Out Ctl
 | [],_=>none
 | p::hs,Y=>if p.2.1.contains e then some (.ok<|.ret<|.fz p.2.2,Y) else exH e hs Y
mutual
noncomputable def exS(c:Cfg) :St→Fm→Out Ctl
 | .asg t e,Y=>bndK (ev c e Y) fun r Y=>mo (asgT c.pin Y t r) fun Y=>some (.ok .next,Y)
 | .setI p i e,Y=>bndK (ev c e Y) fun r Y=>if (plOwn Y p).isSome then bndK (ev c i Y) fun k Y=>mo (rvV r) fun d=>mo (rvV k) fun k=>mo (plOwn Y p) fun o=>mo (setD o k d) fun o'=>some (.ok .next,plSet Y p o')
  else none
 | .app p e,Y=>if ownL (plOwn Y p) then bndK (ev c e Y) fun r Y=>mo (rvV r) fun d=>appE (plOwn Y p) Y p d
  else none
 | .exp e,Y=>bndK (ev c e Y) fun j0_ Y=>some (.ok .next,Y)
 | .iff t a b,Y=>bndK (ev c t Y) fun x Y=>mo (rvD Y x) fun d=>if tD d then exSs c a Y else exSs c b Y
 | .ret e,Y=>bndK (ev c e Y) fun r Y=>retE r Y
 | .for_ t it src body tmp,Y=>bndK (evs c src Y) fun rs Y=>mo (rvVs rs) fun X=>mo (iterD it X) fun items=>forL (f:=⟨fun d Y=>mo (asgT c.pin Y t<|.fz d) fun Y=>exSs c body Y⟩) tmp items Y
 | .whl t body tmp,Y=>whL (t:=⟨fun j0_ Y=>bndK (ev c t Y) fun r Y=>mo (rvD Y r) fun d=>some (.ok<|tD d,Y)⟩) (f:=⟨fun j0_ Y=>exSs c body Y⟩) tmp Wz Y
 | .no,_=>none
 | .rev p,Y=>mo (plOwn Y p) fun o=>mo (revD o) fun o'=>some (.ok .next,plSet Y p o')
 | .mst f as rb args,Y=>bndK (evs c args Y) fun rs Y=>if rb.any (c.pin.contains ·) then none else bndK (callM c f as rs Y) fun j0_ Y=>some (.ok .next,Y)
 | .new f as args body,Y=>bndK (evs c args Y) fun rs Y=>mo (rvVs rs) fun X=>mo (c.call f<|newAts as++X.map .fz) fun o=>if isN o.1 then mo (exSs c body<|setAts Y as o.2) fun x=>some (x.1,clr x.2<|nx as) else none
 | .raise k,Y=>some (.error k,Y)
 | .tryx body hs,Y=>match exSs c body Y with
  | none=>none
  | some (.ok k,Y)=>some (.ok k,Y)
  | some (.error e,Y)=>exH e hs Y
 | .tab0 i,Y=>if c.pin.contains i then none else some (.ok .next,Y.set i<|.tab [])
 | .tset i k e,Y=>bndK (ev c e Y) fun r Y=>bndK (ev c k Y) fun x Y=>mo (rvV r) fun d=>mo (rvV x) fun x=>mo (tabAt Y[i]?) fun X=>if keyOk x=true∧tabGet x X=none∧X.length<Sz then some (.ok .next,Y.set i<|.tab<|X++[(x,d)]) else none
noncomputable def exSs(c:Cfg) :List St→Fm→Out Ctl
 | [],Y=>some (.ok .next,Y)
 | s::ss,Y=>bndK (exS c s Y)<|sqE<|exSs c ss
end
structure Fn where
 np:Nat
 nv:Nat
 body:List St
 na:Nat
 rb:aw
structure Pr where
 glob:aB
 fns:List Fn
noncomputable def finF(na:Nat)(args:List Slot)(m:Out Ctl) :Option (aA Rv×List Slot):=
 match m with
 | none=>none
 | some (.error e,Y)=>some (.error e,outsM na args Y)
 | some (.ok .next,Y)=>some (.ok<|.fz .none,outsM na args Y)
 | some (.ok<|.ret r,Y)=>some (.ok r,outsM na args Y)
noncomputable def cF(P:Pr) :Nat→Nat→List Slot→Option (aA Rv×List Slot)
 | 0,_,_=>none
 | n+1,f,args=>match P.fns[f]? with
  | none=>none
  | some fn=>if args.length=fn.np then finF fn.na args (exSs ⟨P.glob,cF P n,pinsM fn.na fn.rb args⟩ fn.body<|args++List.replicate (fn.nv - fn.np) .no) else none
end Mv
end
section
set_option backward.match.sparseCases false
namespace Mv
inductive NE where | v(i:Nat) | c(n:Nat) | a(x y:NE) | m(k:Nat)(x:NE)
inductive IE where | v(i:Nat) | c(z:Int) | n(x:NE) | a(x y:IE) | s(x y:IE) | g(x:IE) | m(k:Int)(x:IE)
noncomputable abbrev NE.x:NE:=.v 0
noncomputable abbrev NE.y:NE:=.v 1
noncomputable abbrev NE.z:NE:=.v 2
noncomputable abbrev NE.u:NE:=.v 3
noncomputable abbrev IE.x:IE:=.v 0
noncomputable abbrev IE.y:IE:=.v 1
noncomputable abbrev IE.z:IE:=.v 2
noncomputable abbrev IE.u:IE:=.v 3
noncomputable abbrev NE.p(n:Nat)(x:NE) :NE:=.a x<|.c n
noncomputable abbrev IE.p(n:Int)(x:IE) :IE:=.a x<|.c n
noncomputable def atN:aw→Nat→Nat
 | [],_=>0
 | x::_,0=>x
 | _::l,i+1=>atN l i
noncomputable def atI:List Int→Nat→Int
 | [],_=>0
 | x::_,0=>x
 | _::l,i+1=>atI l i
noncomputable def NE.d(ns:aw) :NE→Nat
 | .v i=>atN ns i
 | .c n=>n
 | .a x y=>x.d ns+y.d ns
 | .m k x=>k*x.d ns
noncomputable def IE.d(ns:aw)(is:List Int) :IE→Int
 | .v i=>atI is i
 | .c z=>z
 | .n x=>((x.d ns:Nat) :Int)
 | .a x y=>x.d ns is+y.d ns is
 | .s x y=>x.d ns is - y.d ns is
 | .g x=>- x.d ns is
 | .m k x=>k*x.d ns is
noncomputable def vadd:List Int→List Int→List Int
 | [],l=>l
 | l,[]=>l
 | x::l,y::r=>(x+y)::vadd l r
noncomputable def vmul(k:Int)(l:List Int) :List Int:=l.map (k * ·)
noncomputable def unit:Nat→List Int
 | 0=>[1]
 | i+1=>0::unit i
structure LF where
 k:Int
 n:List Int
 i:List Int
noncomputable def LF.add(x y:LF) :LF:=⟨x.k+y.k,vadd x.n y.n,vadd x.i y.i⟩
noncomputable def LF.mul(k:Int)(x:LF) :LF:=⟨k*x.k,vmul k x.n,vmul k x.i⟩
noncomputable def NE.l:NE→LF
 | .v i=>⟨0,unit i,[]⟩
 | .c n=>⟨n,[],[]⟩
 | .a x y=>x.l.add y.l
 | .m k x=>x.l.mul k
noncomputable def IE.l:IE→LF
 | .v i=>⟨0,[],unit i⟩
 | .c z=>⟨z,[],[]⟩
 | .n x=>x.l
 | .a x y=>x.l.add y.l
 | .s x y=>x.l.add<|y.l.mul<|-1
 | .g x=>x.l.mul<|-1
 | .m k x=>x.l.mul k
noncomputable def dotN:List Int→aw→Int
 | x::l,y::r=>x*y+dotN l r
 | _,_=>0
noncomputable def dotI:List Int→List Int→Int
 | x::l,y::r=>x*y+dotI l r
 | _,_=>0
noncomputable def LF.d(ns:aw)(is:List Int)(x:LF) :Int:=x.k+dotN x.n ns+dotI x.i is
theorem aac(a b c d:Int) :a+b+(c+d)=a+c+(b+d):=by rw[Int.add_assoc,Int.add_assoc,Int.add_left_comm b]
theorem m1(y:Int) : -1*y = -y:=by rw[Int.neg_mul,Int.one_mul]
theorem dotN_add:∀(a b:List Int)(r:aw),dotN (vadd a b) r=dotN a r+dotN b r:=by intro a b r;induction a generalizing b r with
 | nil=>exact(Int.zero_add _).symm
 | cons x a ih=>cases b with
  | nil=>exact(Int.add_zero _).symm
  | cons y b=>cases r with
   | nil=>exact rfl
   | cons z r=>
     show(x+y)*(z:Int)+dotN (vadd a b) r=x*z+dotN a r+(y*z+dotN b r)
     rw[ih b r,Int.add_mul];exact aac _ _ _ _
theorem dotI_add:∀(a b:List Int)(r:List Int),dotI (vadd a b) r=dotI a r+dotI b r:=by intro a b r;induction a generalizing b r with
 | nil=>exact(Int.zero_add _).symm
 | cons x a ih=>cases b with
  | nil=>exact(Int.add_zero _).symm
  | cons y b=>cases r with
   | nil=>exact rfl
   | cons z r=>
     show(x+y)*z+dotI (vadd a b) r=x*z+dotI a r+(y*z+dotI b r)
     rw[ih b r,Int.add_mul];exact aac _ _ _ _
theorem dotN_mul(k:Int) :∀(a:List Int)(r:aw),dotN (vmul k a) r=k*dotN a r:=by intro a r;induction a generalizing r with
 | nil=>exact(Int.mul_zero k).symm
 | cons x a ih=>cases r with
  | nil=>exact(Int.mul_zero k).symm
  | cons z r=>
    show k*x*(z:Int)+dotN (vmul k a) r=k*(x*z+dotN a r)
    rw[ih r,Int.mul_add,Int.mul_assoc]
theorem dotI_mul(k:Int) :∀(a:List Int)(r:List Int),dotI (vmul k a) r=k*dotI a r:=by intro a r;induction a generalizing r with
 | nil=>exact(Int.mul_zero k).symm
 | cons x a ih=>cases r with
  | nil=>exact(Int.mul_zero k).symm
  | cons z r=>
    show k*x*z+dotI (vmul k a) r=k*(x*z+dotI a r)
    rw[ih r,Int.mul_add,Int.mul_assoc]
theorem dotN_unit:∀(i:Nat)(r:aw),dotN (unit i) r=(atN r i:Int):=by intro i r;induction i generalizing r with
 | zero=>cases r with
  | nil=>exact rfl
  | cons x r=>show 1*(x:Int)+0=x;rw[Int.one_mul,Int.add_zero]
 | succ i ih=>cases r with
  | nil=>exact rfl
  | cons x r=>show 0*(x:Int)+dotN (unit i) r=(atN r i:Int);rw[ih r,Int.zero_mul,Int.zero_add]
theorem dotI_unit:∀(i:Nat)(r:List Int),dotI (unit i) r=atI r i:=by intro i r;induction i generalizing r with
 | zero=>cases r with
  | nil=>exact rfl
  | cons x r=>show 1*x+0=x;rw[Int.one_mul,Int.add_zero]
 | succ i ih=>cases r with
  | nil=>exact rfl
  | cons x r=>show 0*x+dotI (unit i) r=atI r i;rw[ih r,Int.zero_mul,Int.zero_add]
theorem LF.d_add(ns:aw)(is:List Int)(x y:LF) :(x.add y).d ns is=x.d ns is+y.d ns is:=by
 show x.k+y.k+dotN (vadd x.n y.n) ns+dotI (vadd x.i y.i) is=(x.k+dotN x.n ns+dotI x.i is)+(y.k+dotN y.n ns+dotI y.i is)
 rw[dotN_add,dotI_add,aac x.k];exact aac _ _ _ _
theorem LF.d_mul(ns:aw)(is:List Int)(k:Int)(x:LF) :(x.mul k).d ns is=k*x.d ns is:=by
 show k*x.k+dotN (vmul k x.n) ns+dotI (vmul k x.i) is=k*(x.k+dotN x.n ns+dotI x.i is)
 rw[dotN_mul,dotI_mul,Int.mul_add,Int.mul_add]
theorem LF.d_sub(ns:aw)(is:List Int)(x y:LF) :(x.add<|y.mul<|-1).d ns is=x.d ns is - y.d ns is:=by rw[LF.d_add,LF.d_mul,m1,Int.sub_eq_add_neg]
theorem NE.l_d(ns:aw)(is:List Int) :∀e:NE,e.l.d ns is=(e.d ns:Int)
 | .v i=>by show 0+dotN (unit i) ns+0=(atN ns i:Int);rw[dotN_unit,Int.zero_add,Int.add_zero]
 | .c n=>by show(n:Int)+0+0=n;rw[Int.add_zero,Int.add_zero]
 | .a x y=>by show(x.l.add y.l).d ns is=((x.d ns+y.d ns:Nat) :Int);rw[LF.d_add,NE.l_d ns is x,NE.l_d ns is y,Int.natCast_add]
 | .m k x=>by show(x.l.mul k).d ns is=((k*x.d ns:Nat) :Int);rw[LF.d_mul,NE.l_d ns is x,Int.natCast_mul]
theorem IE.l_d(ns:aw)(is:List Int) :∀e:IE,e.l.d ns is=e.d ns is
 | .v i=>by show 0+0+dotI (unit i) is=atI is i;rw[dotI_unit,Int.add_zero,Int.zero_add]
 | .c z=>by show z+0+0=z;rw[Int.add_zero,Int.add_zero]
 | .n x=>NE.l_d ns is x
 | .a x y=>by show(x.l.add y.l).d ns is=x.d ns is+y.d ns is;rw[LF.d_add,IE.l_d ns is x,IE.l_d ns is y]
 | .s x y=>by show(x.l.add<|y.l.mul<|-1).d ns is=x.d ns is - y.d ns is;rw[LF.d_sub,IE.l_d ns is x,IE.l_d ns is y]
 | .g x=>by show(x.l.mul<|-1).d ns is = - x.d ns is;rw[LF.d_mul,IE.l_d ns is x,m1]
 | .m k x=>by show(x.l.mul k).d ns is=k*x.d ns is;rw[LF.d_mul,IE.l_d ns is x]
inductive Cn where | i(x y:IE) | j(x y:IE) | w(x y:NE) | e(x y:NE)
noncomputable abbrev Cn.le(x y:IE) :Cn:=.i x y
noncomputable abbrev Cn.eq(x y:IE) :Cn:=.j x y
noncomputable abbrev Cn.nle(x y:NE) :Cn:=.w x y
noncomputable abbrev Cn.neq(x y:NE) :Cn:=.e x y
noncomputable abbrev Gl(x y:NE) :Int×Cn:=(1,.w x y)
noncomputable abbrev Ge(x y:NE) :Int×Cn:=(1,.e x y)
noncomputable abbrev Gf(x y:NE) :Int×Cn:=(-1,.e x y)
noncomputable abbrev Gi(x y:IE) :Int×Cn:=(1,.i x y)
noncomputable abbrev Gj(x y:IE) :Int×Cn:=(1,.j x y)
noncomputable abbrev Gk(x y:IE) :Int×Cn:=(-1,.j x y)
noncomputable abbrev Gp(x y:NE) :Int×Int×Cn:=(1,-1,.e x y)
noncomputable abbrev Gq(x y:NE) :Int×Int×Cn:=(-1,1,.e x y)
noncomputable abbrev Gr(x y:IE) :Int×Int×Cn:=(1,-1,.j x y)
noncomputable def Cn.d(ns:aw)(is:List Int) :Cn→Prop
 | .i x y=>x.d ns is≤y.d ns is
 | .j x y=>x.d ns is=y.d ns is
 | .w x y=>x.d ns≤y.d ns
 | .e x y=>x.d ns=y.d ns
noncomputable def Cn.l:Cn→LF
 | .i x y=>y.l.add<|x.l.mul<|-1
 | .j x y=>y.l.add<|x.l.mul<|-1
 | .w x y=>y.l.add<|x.l.mul<|-1
 | .e x y=>y.l.add<|x.l.mul<|-1
noncomputable def Cn.ok(k:Int) :Cn→Bool
 | .i _ _=>decide<|0≤k
 | .j _ _=>true
 | .w _ _=>decide<|0≤k
 | .e _ _=>true
theorem Cn.nn{ns:aw}{is:List Int}{k:Int}{c:Cn}(h:c.d ns is)(o:c.ok k=true) :0≤(c.l.mul k).d ns is:=by rw[LF.d_mul];cases c with
 | i x y=>
  show 0≤k*(y.l.add<|x.l.mul<|-1).d ns is
  rw[LF.d_sub,IE.l_d,IE.l_d];exact Int.mul_nonneg (of_decide_eq_true o)<|Int.sub_nonneg_of_le h
 | j x y=>
  show 0≤k*(y.l.add<|x.l.mul<|-1).d ns is
  rw[LF.d_sub,IE.l_d,IE.l_d,show x.d ns is=y.d ns is from h,Int.sub_self,Int.mul_zero];exact Int.le_refl _
 | w x y=>
  show 0≤k*(y.l.add<|x.l.mul<|-1).d ns is
  rw[LF.d_sub,NE.l_d,NE.l_d];exact Int.mul_nonneg (of_decide_eq_true o)<|Int.sub_nonneg_of_le<|Int.ofNat_le.mpr h
 | e x y=>
  show 0≤k*(y.l.add<|x.l.mul<|-1).d ns is
  rw[LF.d_sub,NE.l_d,NE.l_d,show x.d ns=y.d ns from h,Int.sub_self,Int.mul_zero];exact Int.le_refl _
noncomputable def sumC:List (Int×Cn)→LF
 | []=>⟨0,[],[]⟩
 | (k,c)::cs=>(c.l.mul k).add<|sumC cs
noncomputable def okC:List (Int×Cn)→Bool
 | []=>true
 | (k,c)::cs=>c.ok k&&okC cs
noncomputable def LF.neg(x:LF) :Bool:=decide (x.k<0)&&(x.n.all (fun z=>decide<|z≤0)&&x.i.all fun z=>decide<|z=0)
theorem dotN_np:∀(a:List Int)(r:aw),(a.all fun z=>decide<|z≤0)=true→dotN a r≤0:=by intro a r;induction a generalizing r with
 | nil=>exact @fun j0_=>Int.le_refl 0
 | cons x a ih=>cases r with
  | nil=>exact @fun j0_=>Int.le_refl 0
  | cons z r=>intro h;rw[List.all_cons,Bool.and_eq_true,decide_eq_true_eq]at h;exact Int.add_le_add (Int.mul_nonpos_of_nonpos_of_nonneg h.1<|Int.natCast_nonneg z)<|ih r h.2
theorem dotI_zero:∀(a r:List Int),(a.all fun z=>decide<|z=0)=true→dotI a r=0:=by intro a r;induction a generalizing r with
 | nil=>exact @fun j0_=>rfl
 | cons x a ih=>cases r with
  | nil=>exact @fun j0_=>rfl
  | cons z r=>
    intro h;rw[List.all_cons,Bool.and_eq_true,decide_eq_true_eq]at h;show x*z+dotI a r=0
    rw[ih r h.2,h.1,Int.zero_mul,Int.add_zero]
theorem LF.neg_d{ns:aw}{is:List Int}{x:LF}(h:x.neg=true) :x.d ns is<0:=by unfold LF.neg at h;rw[Bool.and_eq_true,Bool.and_eq_true,decide_eq_true_eq]at h;have h1:=dotN_np x.n ns h.2.1;have h2:=dotI_zero x.i is h.2.2;unfold LF.d;omega
noncomputable def imp(ns:aw)(is:List Int)(G:Prop) :List (Int×Cn)→Prop
 | []=>G
 | (_,c)::cs=>c.d ns is→imp ns is G cs
theorem imp_ok{ns:aw}{is:List Int}{G:Prop} :∀(cs:List (Int×Cn))(am:Int),okC cs=true→0≤am→(am+(sumC cs).d ns is<0∨(0≤am+(sumC cs).d ns is→G))→imp ns is G cs:=by intro cs;induction cs with
 | nil=>
  intro am _ h0 h;have e:(sumC []).d ns is=0:=by show(0:Int)+0+0=0;rfl
  rw[e,Int.add_zero]at h;exact h.elim (fun q=>absurd h0<|Int.not_le.mpr q) fun q=>q h0
 | cons p0 cs ih=>obtain⟨k,c⟩:=p0;intro am ho h0 h;intro hc;rw[show okC ((k,c)::cs)=(c.ok k&&okC cs) from rfl,Bool.and_eq_true]at ho;have n:=Cn.nn (k:=k) hc ho.1;refine ih (am+(c.l.mul k).d ns is) ho.2 (by omega) ?_;have e:(sumC ((k,c)::cs)).d ns is=(c.l.mul k).d ns is+(sumC cs).d ns is:=LF.d_add ..;rw[e,← Int.add_assoc]at h;exact h
noncomputable def Cn.den:Cn→LF
 | .i x y=>(x.l.add<|y.l.mul<|-1).add ⟨-1,[],[]⟩
 | .w x y=>(x.l.add<|y.l.mul<|-1).add ⟨-1,[],[]⟩
 | _=>⟨0,[],[]⟩
noncomputable def Cn.isLe:Cn→Bool
 | .i _ _=>true
 | .w _ _=>true
 | _=>false
theorem sub1{a b:Int}(h:a - b + -1<0) :a≤b:=by omega
theorem Cn.den_d{ns:aw}{is:List Int}{c:Cn}(hl:c.isLe=true)(h:c.den.d ns is<0) :c.d ns is:=by
 have key:∀x y:LF,((x.add<|y.mul<|-1).add ⟨-1,[],[]⟩).d ns is=x.d ns is - y.d ns is + -1:=fun x y=>by rw[LF.d_add,LF.d_sub];rfl
 cases c with
 | i x y=>have h:((x.l.add<|y.l.mul<|-1).add ⟨-1,[],[]⟩).d ns is<0:=h;rw[key,IE.l_d,IE.l_d]at h;exact sub1 h
 | w x y=>have h:((x.l.add<|y.l.mul<|-1).add ⟨-1,[],[]⟩).d ns is<0:=h;rw[key,NE.l_d,NE.l_d]at h;exact Int.ofNat_le.mp<|sub1 h
 | j x y=>cases hl
 | e x y=>cases hl
noncomputable def chk(g:Int)(G:Cn)(cs:List (Int×Cn)) :Bool:=decide (0≤g)&&(G.isLe&&(okC cs&&((G.den.mul g).add<|sumC cs).neg))
theorem lin(ns:aw)(is:List Int)(g:Int)(G:Cn)(cs:List (Int×Cn))(h:chk g G cs=true) :imp ns is (G.d ns is) cs:=by unfold chk at h;rw[Bool.and_eq_true,Bool.and_eq_true,Bool.and_eq_true,decide_eq_true_eq]at h;obtain⟨h0,h1,h2,h3⟩:=h;refine imp_ok cs 0 h2 (Int.le_refl _)<|.inr fun hs=>?_;rw[Int.zero_add]at hs;have hn:=LF.neg_d (ns:=ns) (is:=is) h3;rw[LF.d_add,LF.d_mul]at hn;refine Cn.den_d h1<|Int.not_le.mp fun q=>?_;have:=Int.mul_nonneg h0 q;omega
noncomputable def Cn.fw:Cn→Cn
 | .i x y=>.i x y
 | .j x y=>.i x y
 | .w x y=>.w x y
 | .e x y=>.w x y
noncomputable def Cn.bw:Cn→Cn
 | .i x y=>.i x y
 | .j x y=>.i y x
 | .w x y=>.w x y
 | .e x y=>.w y x
noncomputable def f1(p:Int×Int×Cn) :Int×Cn:=(p.1,p.2.2)
noncomputable def f2(p:Int×Int×Cn) :Int×Cn:=(p.2.1,p.2.2)
theorem imp_two{ns:aw}{is:List Int}{P Q R:Prop}(k:P→Q→R)(cs:List (Int×Int×Cn)) :imp ns is P (cs.map f1)→imp ns is Q (cs.map f2)→imp ns is R (cs.map f1):=by induction cs with
 | nil=>exact k
 | cons p cs ih=>exact fun a b h=>ih (a h)<|b h
theorem linE(ns:aw)(is:List Int)(G:Cn)(cs:List (Int×Int×Cn))(h:(chk 1 G.fw (cs.map f1)&&chk 1 G.bw (cs.map f2))=true) :imp ns is (G.d ns is) (cs.map f1):=by rw[Bool.and_eq_true]at h;refine imp_two ?_ cs (lin ns is 1 _ _ h.1)<|lin ns is 1 _ _ h.2;cases G with
 | i x y=>exact fun p j0_=>p
 | j x y=>exact fun p q=>Int.le_antisymm p q
 | w x y=>exact fun p j0_=>p
 | e x y=>exact fun p q=>Nat.le_antisymm p q
theorem Le(ns:aw)(G:Cn)(cs:List (Int×Int×Cn))(h:(chk 1 G.fw (cs.map f1)&&chk 1 G.bw (cs.map f2))=true) :imp ns [] (G.d ns []) (cs.map f1):=linE ns [] G cs h
theorem Ln(ns:aw)(G:Cn)(cs:List (Int×Cn))(h:chk 1 G cs=true) :imp ns [] (G.d ns []) cs:=lin ns [] 1 G cs h
theorem Li(is:List Int)(G:Cn)(cs:List (Int×Cn))(h:chk 1 G cs=true) :imp [] is (G.d [] is) cs:=lin [] is 1 G cs h
noncomputable def chkF(cs:List (Int×Cn)) :Bool:=okC cs&&(sumC cs).neg
theorem linF(ns:aw)(is:List Int)(cs:List (Int×Cn))(h:chkF cs=true) :imp ns is False cs:=by unfold chkF at h;rw[Bool.and_eq_true]at h;refine imp_ok cs 0 h.1 (Int.le_refl _)<|.inl ?_;rw[Int.zero_add];exact LF.neg_d h.2
theorem Lf(ns:aw)(cs:List (Int×Cn))(h:chkF cs=true) :imp ns [] False cs:=linF ns [] cs h
end Mv
end
section
set_option backward.match.sparseCases false
namespace Mv
open PySem
theorem compL_cons(f:Kt D (Option D))(cl:aw)(d:D)(X:aB)(Y:Fm) : @compL f cl (d::X) Y=bndK (f.run d<|clr Y cl) fun r Y=>bndK (@compL f cl X Y) (cpE r):=by first | rfl | kernel_rfl
theorem forL_cons(f:Kt D Ctl)(cl:aw)(d:D)(X:aB)(Y:Fm) : @forL f cl (d::X) Y=bndK (f.run d<|clr Y cl) fun c Y=>match c with
  | .next=>@forL f cl X Y
  | .ret r=>some (.ok<|.ret r,Y):=by first | rfl | kernel_rfl
theorem bnd_id{α:Type}(q:Out α) : @bnd _ _ q ⟨fun rs Y=>some (.ok rs,Y)⟩=q:=by rcases q with _ | ⟨_ | _,_⟩ <;> rfl
section
variable (c:Cfg)(Y:Fm)
theorem ev_gl(k:Nat) :ev c (.gl k) Y=mo c.glob[k]? fun d=>some (.ok<|.fz d,Y):=by first | rfl | kernel_rfl
theorem ev_var(i:Nat) :ev c (.var i) Y=varE Y[i]? Y i:=by first | rfl | kernel_rfl
theorem ev_pl(p:Pl) :ev c (.pl p) Y=if plLive Y p then some (.ok<|.pl p,Y) else none:=by first | rfl | kernel_rfl
theorem ev_tup(es:List Ex) :ev c (.tup es) Y=bnd (k:=⟨fun rs Y=>okO Y<|(rvVs rs).map fun X=>.fz<|.tuple X⟩) (evs c es Y):=by first | rfl | kernel_rfl
theorem ev_list(es:List Ex) :ev c (.list es) Y=bnd (k:=⟨fun rs Y=>okO Y<|(rvVs rs).map fun X=>.ai<|.list X⟩) (evs c es Y):=by first | rfl | kernel_rfl
theorem ev_op2(o:Op2)(a b:Ex) :ev c (.op2 o a b) Y=bnd (k:=⟨fun x Y=>bnd (k:=⟨fun y Y=>mo (rvD Y x) fun d=>mo (rvD Y y) fun e=>okV Y<|op2 o d e⟩)<|ev c b Y⟩) (ev c a Y):=by first | rfl | kernel_rfl
theorem ev_neg(a:Ex) :ev c (.neg a) Y=bnd (k:=⟨fun x Y=>mo (rvV x) fun d=>okO Y<|(negD d).map .fz⟩) (ev c a Y):=by first | rfl | kernel_rfl
theorem ev_not(a:Ex) :ev c (.not a) Y=bnd (k:=⟨fun x Y=>mo (rvD Y x) fun d=>some (.ok<|.fz<|.bool<|!tD d,Y)⟩) (ev c a Y):=by first | rfl | kernel_rfl
theorem ev_cmp(o:Cm)(a b:Ex) :ev c (.cmp o a b) Y=bnd (k:=⟨fun x Y=>bnd (k:=⟨fun y Y=>mo (rvD Y x) fun d=>mo (rvD Y y) fun e=>okO Y<|(cmpD o d e).map fun b=>.fz<|.bool b⟩)<|ev c b Y⟩) (ev c a Y):=by first | rfl | kernel_rfl
theorem ev_cmp2(o p:Cm)(a b e:Ex) :ev c (.cmp2 o p a b e) Y=bnd (k:=⟨fun x Y=>bnd (k:=⟨fun y Y=>mo (rvV x) fun d=>mo (rvV y) fun d'=>mo (cmpD o d d') fun t=>if t=true then bnd (k:=⟨fun z Y=>mo (rvV z) fun d''=>okO Y<|(cmpD p d' d'').map fun b=>.fz<|.bool b⟩) (ev c e Y) else some (.ok<|.fz<|.bool false,Y)⟩)<|ev c b Y⟩) (ev c a Y):=by first | rfl | kernel_rfl
theorem ev_bo(j:Bool)(es:List Ex) :ev c (.bo j es) Y=evB c j es Y:=by first | rfl | kernel_rfl
theorem ev_idx(a i:Ex) :ev c (.idx a i) Y=bnd (k:=⟨fun x Y=>bnd (k:=⟨fun y Y=>mo (rvD Y x) fun d=>mo (rvV y) fun e=>okO Y<|(idxD d e).map .fz⟩)<|ev c i Y⟩) (ev c a Y):=by first | rfl | kernel_rfl
theorem ev_slc(a lo hi:Ex) :ev c (.slc a lo hi) Y=bnd (k:=⟨fun x Y=>bnd (k:=⟨fun y Y=>bnd (k:=⟨fun z Y=>mo (rvD Y x) fun d=>mo (rvV y) fun l=>mo (rvV z) fun h=>okV Y<|slcD d l h⟩)<|ev c hi Y⟩)<|ev c lo Y⟩) (ev c a Y):=by first | rfl | kernel_rfl
theorem ev_call(f:Nat)(args:List Ex) :ev c (.call f args) Y=bnd (k:=⟨fun rs Y=>callM c f [] rs Y⟩) (evs c args Y):=by first | rfl | kernel_rfl
theorem ev_mcall(f:Nat)(as:aw)(args:List Ex) :ev c (.mcall f as args) Y=bnd (k:=⟨fun rs Y=>callM c f as rs Y⟩) (evs c args Y):=by first | rfl | kernel_rfl
theorem ev_tin(i:Nat)(e:Ex) :ev c (.tin i e) Y=bnd (k:=⟨fun r Y=>mo (rvV r) fun k=>mo (tabAt Y[i]?) fun X=>if keyOk k then some (.ok<|.fz<|.bool (tabGet k X).isNone,Y) else none⟩) (ev c e Y):=by first | rfl | kernel_rfl
theorem ev_tget(i:Nat)(e:Ex) :ev c (.tget i e) Y=bnd (k:=⟨fun r Y=>mo (rvV r) fun k=>mo (tabAt Y[i]?) fun X=>if keyOk k then okO Y ((tabGet k X).map .fz) else none⟩) (ev c e Y):=by first | rfl | kernel_rfl
theorem ev_bi(b:Bi)(args:List Ex) :ev c (.bi b args) Y=bnd (k:=⟨fun rs Y=>mo (rvDs Y rs) fun X=>okV Y<|biD b X⟩) (evs c args Y):=by first | rfl | kernel_rfl
noncomputable def compB(elt:Ex)(t:Tgt)(conds:List Ex)(items:aB) :Out aB:=
 compL (f:=⟨fun d Y=>mo (asgT c.pin Y t<|.fz d) fun Y=>bndK (evConds c conds Y) fun b Y=>if b then bndK (ev c elt Y) fun r Y=>okO Y ((rvV r).map some) else some (.ok none,Y)⟩) (tgtVars t) items Y
theorem ev_comp(elt:Ex)(t:Tgt)(it:Itk)(src conds:List Ex) :ev c (.comp elt t it src conds) Y=bnd (k:=⟨fun rs Y=>mo (rvVs rs) fun X=>mo (iterD it X) fun items=>bndC (k:=⟨fun X Y=>some (.ok<|.ai<|.list X,Y)⟩) (tgtVars t)<|compB c Y elt t conds items⟩) (evs c src Y):=by first | rfl | kernel_rfl
theorem compB_nil(elt:Ex)(t:Tgt)(conds:List Ex) :compB c Y elt t conds []=some (.ok [],clr Y<|tgtVars t):=by first | rfl | kernel_rfl
theorem compB_cons(elt:Ex)(t:Tgt)(conds:List Ex)(d:D)(X:aB) :compB c Y elt t conds (d::X) =
  mo (asgT c.pin (clr Y<|tgtVars t) t<|.fz d) fun Y=>bnd (k:=⟨fun b Y=>if b=true then bnd (k:=⟨fun r Y=>match rvV r with
    | none=>none
    | some x=>bnd (k:=⟨fun rs Y=>some (.ok (x::rs),Y)⟩)<|compB c Y elt t conds X⟩) (ev c elt Y) else compB c Y elt t conds X⟩) (evConds c conds Y):=by
 unfold compB;refine(compL_cons _ _ _ _ _).trans ?_;dsimp only;cases asgT c.pin (clr Y<|tgtVars t) t (.fz d) with
 | none=>rfl
 | some Y=>
  dsimp only[bndK];rw[mo_e,mo_e];rcases evConds c conds Y with _ | ⟨_ | b,Y⟩
  .rfl
  .rfl
  .rw[bnd_ok,bnd_ok];cases b with
   | false=>simp only[Bool.false_eq_true,if_false,bnd_ok];exact bnd_id _
   | true=>
    simp only[if_true];rcases ev c elt Y with _ | ⟨_ | r,Y⟩
    .rfl
    .rfl
    .rw[bnd_ok,bnd_ok];cases rvV r with
     | none=>rfl
     | some x=>rfl
theorem evs_nil:evs c [] Y=some (.ok [],Y):=by first | rfl | kernel_rfl
theorem evs_cons(e:Ex)(es:List Ex) :evs c (e::es) Y=bnd (k:=⟨fun r Y=>bnd (k:=⟨fun rs Y=>some (.ok (r::rs),Y)⟩)<|evs c es Y⟩) (ev c e Y):=by first | rfl | kernel_rfl
theorem evB_one(j:Bool)(e:Ex) :evB c j [e] Y=bnd (k:=⟨fun r Y=>mo (rvV r) fun j0_=>some (.ok r,Y)⟩) (ev c e Y):=by first | rfl | kernel_rfl
theorem evB_cons(j:Bool)(e e':Ex)(es:List Ex) :evB c j (e::e'::es) Y=bnd (k:=⟨fun r Y=>mo (rvV r) fun d=>if tD d=j then evB c j (e'::es) Y else some (.ok r,Y)⟩) (ev c e Y):=by first | rfl | kernel_rfl
theorem evConds_cons(e:Ex)(es:List Ex) :evConds c (e::es) Y=bnd (k:=⟨fun r Y=>mo (rvD Y r) fun d=>if tD d then evConds c es Y else some (.ok false,Y)⟩) (ev c e Y):=by first | rfl | kernel_rfl
theorem exS_asg(t:Tgt)(e:Ex) :exS c (.asg t e) Y=bnd (k:=⟨fun r Y=>mo (asgT c.pin Y t r) fun Y=>some (.ok .next,Y)⟩) (ev c e Y):=by first | rfl | kernel_rfl
theorem exS_setI(p:Pl)(i e:Ex) :exS c (.setI p i e) Y=bnd (k:=⟨fun r Y=>if (plOwn Y p).isSome then bnd (k:=⟨fun k Y=>mo (rvV r) fun d=>mo (rvV k) fun k=>mo (plOwn Y p) fun o=>mo (setD o k d) fun o'=>some (.ok .next,plSet Y p o')⟩) (ev c i Y) else none⟩) (ev c e Y):=by first | rfl | kernel_rfl
theorem exS_app(p:Pl)(e:Ex) :exS c (.app p e) Y=if ownL (plOwn Y p) then bnd (k:=⟨fun r Y=>mo (rvV r) fun d=>appE (plOwn Y p) Y p d⟩) (ev c e Y) else none:=by first | rfl | kernel_rfl
theorem exS_exp(e:Ex) :exS c (.exp e) Y=bnd (k:=⟨fun j0_ Y=>some (.ok .next,Y)⟩) (ev c e Y):=by first | rfl | kernel_rfl
theorem exS_iff(t:Ex)(a b:List St) :exS c (.iff t a b) Y=bnd (k:=⟨fun x Y=>mo (rvD Y x) fun d=>if tD d then exSs c a Y else exSs c b Y⟩) (ev c t Y):=by first | rfl | kernel_rfl
theorem exS_ret(e:Ex) :exS c (.ret e) Y=bnd (k:=⟨fun r Y=>retE r Y⟩) (ev c e Y):=by first | rfl | kernel_rfl
noncomputable def forB(t:Tgt)(body:List St)(tmp:aw)(items:aB) :Out Ctl:=
 forL (f:=⟨fun d Y=>mo (asgT c.pin Y t<|.fz d) fun Y=>exSs c body Y⟩) tmp items Y
theorem exS_for(t:Tgt)(it:Itk)(src:List Ex)(body:List St)(tmp:aw) :exS c (.for_ t it src body tmp) Y=bnd (k:=⟨fun rs Y=>mo (rvVs rs) fun X=>mo (iterD it X) fun items=>forB c Y t body tmp items⟩) (evs c src Y):=by first | rfl | kernel_rfl
theorem forB_nil(t:Tgt)(body:List St)(tmp:aw) :forB c Y t body tmp []=some (.ok .next,clr Y tmp):=by first | rfl | kernel_rfl
theorem forB_cons(t:Tgt)(body:List St)(tmp:aw)(d:D)(X:aB) :forB c Y t body tmp (d::X) =
  mo (asgT c.pin (clr Y tmp) t<|.fz d) fun Y=>bnd (k:=⟨fun k Y=>match k with
   | .next=>forB c Y t body tmp X
   | .ret r=>some (.ok<|.ret r,Y)⟩) (exSs c body Y):=by
 unfold forB;refine(forL_cons _ _ _ _ _).trans ?_;dsimp only;cases asgT c.pin (clr Y tmp) t (.fz d) with
 | none=>rfl
 | some Y=>rfl
noncomputable def whB(t:Ex)(body:List St)(tmp:aw)(n:Nat) :Out Ctl:=
 whL (t:=⟨fun j0_ Y=>bndK (ev c t Y) fun r Y=>mo (rvD Y r) fun d=>some (.ok<|tD d,Y)⟩) (f:=⟨fun j0_ Y=>exSs c body Y⟩) tmp n Y
theorem exS_whl(t:Ex)(body:List St)(tmp:aw) :exS c (.whl t body tmp) Y=whB c Y t body tmp Wz:=by first | rfl | kernel_rfl
theorem whB_succ(t:Ex)(body:List St)(tmp:aw)(n:Nat) :whB c Y t body tmp (n+1) =
  bnd (k:=⟨fun b Y=>match b with
   | true=>bnd (k:=⟨fun k Y=>match k with
    | .next=>whB c Y t body tmp n
    | .ret r=>some (.ok<|.ret r,Y)⟩) (exSs c body Y)
   | false=>some (.ok .next,Y)⟩) (bndK (ev c t<|clr Y tmp) fun r Y=>mo (rvD Y r) fun d=>some (.ok<|tD d,Y)):=by first | rfl | kernel_rfl
theorem exS_raise(k:Str) :exS c (.raise k) Y=some (.error k,Y):=by first | rfl | kernel_rfl
noncomputable def tryO(hs:List (Str×ax×D))(m:Out Ctl) :Out Ctl:=match m with
 | none=>none
 | some (.ok k,Y)=>some (.ok k,Y)
 | some (.error e,Y)=>exH e hs Y
theorem exS_tryx(body:List St)(hs:List (Str×ax×D)) :exS c (.tryx body hs) Y=tryO hs (exSs c body Y):=by first | rfl | kernel_rfl
theorem tryO_ok(hs:List (Str×ax×D))(k:Ctl) :tryO hs (some (.ok k,Y))=some (.ok k,Y):=by first | rfl | kernel_rfl
theorem tryO_err(hs:List (Str×ax×D))(e:Str) :tryO hs (some (.error e,Y))=exH e hs Y:=by first | rfl | kernel_rfl
theorem exH_c(e:Str)(p:Str×ax×D)(hs:List (Str×ax×D)) :exH e (p::hs) Y=if p.2.1.contains e then some (.ok<|.ret<|.fz p.2.2,Y) else exH e hs Y:=by first | rfl | kernel_rfl
theorem exS_tab0(i:Nat) :exS c (.tab0 i) Y=if c.pin.contains i then none else some (.ok .next,Y.set i<|.tab []):=by first | rfl | kernel_rfl
theorem exS_tset(i:Nat)(k e:Ex) :exS c (.tset i k e) Y=bnd (k:=⟨fun r Y=>bnd (k:=⟨fun x Y=>mo (rvV r) fun d=>mo (rvV x) fun x=>mo (tabAt Y[i]?) fun X=>if keyOk x=true∧tabGet x X=none∧X.length<Sz then some (.ok .next,Y.set i<|.tab<|X++[(x,d)]) else none⟩)<|ev c k Y⟩) (ev c e Y):=by first | rfl | kernel_rfl
noncomputable def newB(as:aw)(m:Out Ctl) :Out Ctl:=match m with
 | some (r,Y)=>some (r,clr Y<|nx as)
 | none=>none
theorem exS_new(f:Nat)(as:aw)(args:List Ex)(body:List St) :exS c (.new f as args body) Y=bnd (k:=⟨fun rs Y=>match rvVs rs with
  | none=>none
  | some X=>(match c.call f (newAts as++X.map .fz) with
   | some (o,outs)=>if isN o then newB as (exSs c body<|setAts Y as outs) else none
   | none=>none)⟩) (evs c args Y):=by first | rfl | kernel_rfl
theorem exSs_cons(s:St)(ss:List St) :exSs c (s::ss) Y=bnd (k:=⟨fun k Y=>match k with
  | .next=>exSs c ss Y
  | .ret r=>some (.ok<|.ret r,Y)⟩) (exS c s Y):=by rfl
end
theorem o_addI(a b:Int) :op2 .add (.int a) (.int b)=some (.fz<|.int<|a+b):=by first | rfl | kernel_rfl
theorem o_addS(a b:Str) :op2 .add (.str a) (.str b)=if a.cps.size+b.cps.size≤Sz then some (.fz<|.str ⟨a.cps++b.cps⟩) else none:=by first | rfl | kernel_rfl
theorem o_addT(a b:aB) :op2 .add (.tuple a) (.tuple b)=if a.length+b.length≤Sz then some (.fz<|.tuple<|a++b) else none:=by first | rfl | kernel_rfl
theorem o_addL(a b:aB) :op2 .add (.list a) (.list b)=if a.length+b.length≤Sz then some (.ai<|.list<|a++b) else none:=by first | rfl | kernel_rfl
theorem o_fdiv(a b:Int) :op2 .fdiv (.int a) (.int b)=if b≠0∧b.natAbs<2 ^ 64 then some (.fz<|.int<|a.fdiv b) else none:=by first | rfl | kernel_rfl
theorem o_mod(a b:Int) :op2 .mod (.int a) (.int b)=if b=0 then none else some (.fz<|.int<|a.fmod b):=by first | rfl | kernel_rfl
theorem b_len(a:D) :biD .len [a]=(lenD a).map fun(n:Nat)=>.fz (.int n):=by first | rfl | kernel_rfl
theorem b_abs(a:Int) :biD .abs [.int a]=some (.fz<|.int a.natAbs):=by first | rfl | kernel_rfl
theorem e_int(a b:Int) :eqD (.int a) (.int b)=some (a==b):=by first | rfl | kernel_rfl
theorem e_list(a b:aB) :eqD (.list a) (.list b)=if eqOk (.list a) (.list b) then some (PyData.eqv (.list a)<|.list b) else none:=by first | rfl | kernel_rfl
theorem roots_v{i:Nat}{rs:List Rv} :roots (.pl (.var i)::rs)=i::roots rs:=by first | rfl | kernel_rfl
theorem copyOut_c{Y:Fm}{r:Rv}{rs:List Rv}{s:Slot}{ss outs:List Slot} :copyOut Y (r::rs) (s::ss) outs=if s.lent then(match outs with
   | o::os=>(match r with
    | .pl (.var i)=>copyOut (Y.set i o) rs ss os
    | _=>copyOut Y rs ss os)
   | []=>Y) else copyOut Y rs ss outs:=by first | rfl | kernel_rfl
theorem outsOf_c{s:Slot}{ss:List Slot}{Y:Fm} :outsOf (s::ss) Y=if s.lent then Y.headD .no::outsOf ss Y.tail else outsOf ss Y.tail:=by first | rfl | kernel_rfl
theorem pinsOf_c{k:Nat}{s:Slot}{ss:List Slot} :pinsOf k (s::ss)=if s.lent then k::pinsOf (k+1) ss else pinsOf (k+1) ss:=by first | rfl | kernel_rfl
theorem rvDs_c{Y:Fm}{r:Rv}{rs:List Rv} :rvDs Y (r::rs)=(match rvD Y r,rvDs Y rs with
  | some d,some X=>some (d::X)
  | _,_=>none):=by first | rfl | kernel_rfl
theorem rvDs_n{Y:Fm} :rvDs Y []=some []:=by first | rfl | kernel_rfl
theorem rvVs_c{r:Rv}{rs:List Rv} :rvVs (r::rs)=(match rvV r,rvVs rs with
  | some d,some X=>some (d::X)
  | _,_=>none):=by first | rfl | kernel_rfl
theorem rvVs_n:rvVs []=some []:=by first | rfl | kernel_rfl
theorem rvVs_s{r:Rv}{rs:List Rv}{X:aB}(h:rvVs (r::rs)=some X) :∃d ds',rvV r=some d∧rvVs rs=some ds'∧X=d::ds':=by rw[rvVs_c]at h;cases q:rvV r with
 | none=>rw[q]at h;exact nos h
 | some d=>cases p:rvVs rs with
  | none=>rw[q,p]at h;exact nos h
  | some ds'=>rw[q,p]at h;exact⟨d,ds',rfl,rfl,(sos h).symm⟩
theorem rvDs_s{Y:Fm}{r:Rv}{rs:List Rv}{X:aB}(h:rvDs Y (r::rs)=some X) :∃d ds',rvD Y r=some d∧rvDs Y rs=some ds'∧X=d::ds':=by rw[rvDs_c]at h;cases q:rvD Y r with
 | none=>rw[q]at h;exact nos h
 | some d=>cases p:rvDs Y rs with
  | none=>rw[q,p]at h;exact nos h
  | some ds'=>rw[q,p]at h;exact⟨d,ds',rfl,rfl,(sos h).symm⟩
theorem rvDs_1{Y:Fm}{r:Rv}{X:aB}(h:rvDs Y [r]=some X) :∃d,rvD Y r=some d∧X=[d]:=ex2 (rvDs_s h) fun d j0_ z=>⟨d,z.1,z.2.2.trans<|congrArg _ (sos z.2.1).symm⟩
theorem rvDs_2{Y:Fm}{r r':Rv}{X:aB}(h:rvDs Y [r,r']=some X) :∃d e,rvD Y r=some d∧rvD Y r'=some e∧X=[d,e]:=ex2 (rvDs_s h) fun d j0_ z=>ex1 (rvDs_1 z.2.1) fun e q=>⟨d,e,z.1,q.1,z.2.2.trans<|congrArg _ q.2⟩
theorem rvVs_1{r:Rv}{X:aB}(h:rvVs [r]=some X) :∃d,rvV r=some d∧X=[d]:=ex2 (rvVs_s h) fun d j0_ z=>⟨d,z.1,z.2.2.trans<|congrArg _ (sos z.2.1).symm⟩
theorem evs_1{β:Type}{c:Cfg}{Y:Fm}{x:Ex}{k:List Rv→Fm→Out β}{ak:aA β×Fm}(h:bndK (evs c [x] Y) k=some ak) :bndK (ev c x Y) (fun r Y=>k [r] Y)=some ak:=by rw[evs_cons]at h;rcases he:ev c x Y with _ | ⟨_ | r,f⟩ <;> (rw[he]at h;exact h)
theorem evs_2{β:Type}{c:Cfg}{Y:Fm}{x z:Ex}{k:List Rv→Fm→Out β}{ak:aA β×Fm}(h:bndK (evs c [x,z] Y) k=some ak) :bndK (ev c x Y) (fun r Y=>bndK (ev c z Y) fun r' Y=>k [r,r'] Y)=some ak:=by
 rw[evs_cons]at h;rcases he:ev c x Y with _ | ⟨_ | r,f⟩
 .rw[he]at h;exact h
 .rw[he]at h;exact h
 .rw[he]at h;exact evs_1 (k:=fun rs Y=>k (r::rs) Y) (by rcases ez:evs c [z] f with _ | ⟨_ | _,_⟩ <;> (have h:bndK (bndK (evs c [z] f) fun rs Y=>some (.ok (r::rs),Y)) k=some ak:=h;rw[ez]at h;exact h))
end Mv
end
section
set_option backward.match.sparseCases false
namespace Mv
open PySem
theorem b_count(M:aB)(x:Str) :biD .count [.list M,.str x]=(strsOf M).map fun bs=>.fz (.int (bs.count x:Nat)):=rfl
theorem o_mulS(a:Str)(n:Int) :op2 .mul (.str a) (.int n)=if -1000000000≤n∧n≤1000000000∧a.cps.size*n.toNat≤Sz then some (.fz<|.str ⟨(rep n a.cps.toList).toArray⟩) else none:=rfl
theorem e_strD(a b:Str) :eqD (.str a) (.str b)=some (decide<|a=b):=by
 show some (a.cps.toList==b.cps.toList)=_
 congr 1;obtain⟨⟨l⟩⟩:=a;obtain⟨⟨k⟩⟩:=b;by_cases q:l=k
 .subst q;simp
 .have h1:¬((⟨⟨l⟩⟩ :Str)=⟨⟨k⟩⟩):=by intro e;apply q;injection e with e;injection e
  rw[decide_eq_false h1];simpa using q
theorem b_int(b:Bool) :biD .int [.bool b]=some (.fz<|.int (if b then 1 else 0)):=rfl
theorem b_isi(t:Ty)(a:D) :biD (.isi t) [a]=some (.fz<|.bool<|isiD t a):=rfl
theorem b_listT(M:aB) :biD .list [.tuple M]=some (.ai<|.list M):=rfl
theorem b_tupL(M:aB) :biD .tuple [.list M]=some (.fz<|.tuple M):=rfl
theorem b_tupT(M:aB) :biD .tuple [.tuple M]=some (.fz<|.tuple M):=rfl
theorem c_eqB(a b:Bool) :cmpD .eq (.bool a) (.bool b)=some (a==b):=rfl
theorem c_in(a b:D) :cmpD .isin a b=inD a b:=rfl
theorem e_bool(a b:Bool) :eqD (.bool a) (.bool b)=some (a==b):=rfl
theorem n_list(l:aB) :biD .len [.list l]=some (.fz<|.int l.length):=rfl
theorem n_tup(l:aB) :biD .len [.tuple l]=some (.fz<|.int l.length):=rfl
theorem o_mulI(a b:Int) :op2 .mul (.int a) (.int b)=mulI a b:=rfl
theorem o_pow(a n:Int) :op2 .pow (.int a) (.int n)=if 0≤n∧n≤1000∧a.natAbs<2 ^ 64 then some (.fz<|.int<|a ^ n.toNat) else none:=rfl
theorem o_sub(a b:Int) :op2 .sub (.int a) (.int b)=some (.fz<|.int<|a - b):=rfl
theorem s_dict(l:aC)(k:Str)(d:D) :setD (.dict l) (.str k) d=if l.length<Sz then some (.dict<|dsetL l k d) else none:=rfl
theorem t_bool(b:Bool) :tD (.bool b)=b:=rfl
theorem t_int(i:Int) :tD (.int i)=(i != 0):=rfl
theorem t_list(l:aB) :tD (.list l) = !l.isEmpty:=rfl
theorem t_tup(l:aB) :tD (.tuple l) = !l.isEmpty:=rfl
theorem x_dict(l:aC)(k:Str) :idxD (.dict l) (.str k)=dgetL l k:=rfl
theorem x_list(l:aB)(i:Int) :idxD (.list l) (.int i)=idxOf l i:=rfl
theorem x_str(s:Str)(i:Int) :idxD (.str s) (.int i)=(idxOf s.cps.toList i).map fun c=>.str ⟨#[c]⟩:=rfl
theorem x_tup(l:aB)(i:Int) :idxD (.tuple l) (.int i)=idxT l i:=rfl
end Mv
end
section
set_option backward.match.sparseCases false
namespace Mv
open PySem
structure Q(W:Type) where
 bad:W
 b:Option Bool→(Bool→W)→W
 t:Bool→(Bool→W)→W
 v:Option Rv→(Rv→W)→W
 d:Option D→(D→W)→W
 l:Option aB→(aB→W)→W
 lp:Out Ctl→W→(aA Ctl→Fm→W)→W
 cp:Out aB→W→(aA aB→Fm→W)→W
 c:Option (aA Rv×List Slot)→(aA Rv→List Slot→W)→W
section
variable {W:Type}
noncomputable def up{α β:Type}(k:aA β→Fm→W)(f:α→Fm→W) :aA α→Fm→W
 | .error e,Y=>k (.error e) Y
 | .ok a,Y=>f a Y
noncomputable def opt{α:Type}(q:Q W)(x:Option α)(f:α→W) :W:=match x with
 | none=>q.bad
 | some a=>f a
noncomputable def cnd(b:Bool)(x y:W) :W:=match b with
 | true=>x
 | false=>y
noncomputable def nrm:Fm→(Fm→W)→W
 | [],k=>k []
 | s::Y,k=>nrm Y fun Y=>k (s::Y)
noncomputable def rvK(q:Q W)(r:Rv)(x:W) :W:=match r with
 | .pl _=>q.bad
 | _=>x
noncomputable def varK(q:Q W)(s:Option Slot)(Y:Fm)(i:Nat)(k:aA Rv→Fm→W) :W:=match s with
 | some (.fz d)=>k (.ok<|.fz d) Y
 | some (.ai d)=>nrm (Y.set i<|.fz d) fun Y=>k (.ok<|.fz d) Y
 | _=>q.bad
noncomputable def cpK(k:aA aB→Fm→W)(r:Option D)(rs:aB)(Y:Fm) :W:=match r with
 | none=>k (.ok rs) Y
 | some x=>k (.ok (x::rs)) Y
noncomputable abbrev compR(k:aA aB→Fm→W)(r:Option D) :aA aB→Fm→W:=up k<|cpK k r
noncomputable def sqK(F:Fm→W)(k:aA Ctl→Fm→W)(r:Ctl)(Y:Fm) :W:=match r with
 | .next=>F Y
 | .ret r=>k (.ok<|.ret r) Y
noncomputable def compU(q:Q W)(one:D→Fm→(aA (Option D)→Fm→W)→W)(x:aB→Fm→Out aB)(cl:aw) :aB→Fm→(aA aB→Fm→W)→W
 | [],Y,k=>k (.ok [])<|clr Y cl
 | d::X,Y,k=>nrm (clr Y cl) fun Y=>one d Y<|up k fun r Y=>q.cp (x X Y) (compU q one x cl X Y<|compR k r)<|compR k r
noncomputable abbrev forK(q:Q W)(x:Fm→Out Ctl)(u:Fm→W)(k:aA Ctl→Fm→W) :aA Ctl→Fm→W:=up k<|sqK (fun Y=>q.lp (x Y) (u Y) k) k
noncomputable def forU(q:Q W)(one:D→Fm→(aA Ctl→Fm→W)→W)(x:aB→Fm→Out Ctl)(cl:aw) :aB→Fm→(aA Ctl→Fm→W)→W
 | [],Y,k=>k (.ok .next)<|clr Y cl
 | d::X,Y,k=>nrm (clr Y cl) fun Y=>one d Y<|forK q (x X) (fun Y=>forU q one x cl X Y k) k
noncomputable def callW(q:Q W)(c:Cfg)(f:Nat)(as:aw)(rs:List Rv)(Y:Fm)(k:aA Rv→Fm→W) :W:=
 opt q (argSlots Y rs) fun ss=>cnd (decide (as++roots rs).Nodup) (q.c (c.call f<|atsOf Y as++ss) fun r outs=>nrm (copyOut (setAts Y as outs) rs ss<|outs.drop as.length) fun Y=>
   up k (fun r Y=>opt q (rvV r) fun j0_=>k (.ok r) Y) r Y) q.bad
noncomputable def fzK(q:Q W)(r:aA Rv)(k:D→W) :W:=match r with
 | .ok (.fz d)=>k d
 | _=>q.bad
noncomputable def cmK(cl:aw)(k:aA Rv→Fm→W)(o:aA aB)(Y:Fm) :W:=match o with
 | .error e=>nrm (clr Y cl) fun Y=>k (.error e) Y
 | .ok X=>k (.ok<|.ai<|.list X) Y
mutual
noncomputable def wp(q:Q W)(c:Cfg) :Ex→Fm→(aA Rv→Fm→W)→W
 | .lit d,Y,k=>k (.ok<|.fz d) Y
 | .gl i,Y,k=>opt q c.glob[i]? fun d=>k (.ok<|.fz d) Y
 | .var i,Y,k=>varK q Y[i]? Y i k
 | .pl p,Y,k=>cnd (plLive Y p) (k (.ok<|.pl p) Y) q.bad
 | .tup es,Y,k=>wpL q c es Y<|up k fun rs Y=>opt q (rvVs rs) fun X=>k (.ok<|.fz<|.tuple X) Y
 | .list es,Y,k=>wpL q c es Y<|up k fun rs Y=>opt q (rvVs rs) fun X=>k (.ok<|.ai<|.list X) Y
 | .op2 o a b,Y,k=>wp q c a Y<|up k fun x Y=>wp q c b Y<|up k fun y Y=>opt q (rvD Y x) fun d=>opt q (rvD Y y) fun e=>q.v (op2 o d e) fun r=>rvK q r<|k (.ok r) Y
 | .neg a,Y,k=>wp q c a Y<|up k fun x Y=>opt q (rvV x) fun d=>opt q (negD d) fun e=>k (.ok<|.fz e) Y
 | .not a,Y,k=>wp q c a Y<|up k fun x Y=>opt q (rvD Y x) fun d=>q.t (tD d) fun b=>k (.ok<|.fz<|.bool<|!b) Y
 | .cmp o a b,Y,k=>wp q c a Y<|up k fun x Y=>wp q c b Y<|up k fun y Y=>opt q (rvD Y x) fun d=>opt q (rvD Y y) fun e=>q.b (cmpD o d e) fun b=>k (.ok<|.fz<|.bool b) Y
 | .cmp2 o p a b e,Y,k=>wp q c a Y (up k fun x Y=>wp q c b Y (up k fun y Y=>opt q (rvV x) fun d=>opt q (rvV y) fun d'=>q.b (cmpD o d d') fun t=>
   q.t t fun t=>cnd t (wp q c e Y<|up k fun z Y=>opt q (rvV z) fun d''=>q.b (cmpD p d' d'') fun b=>k (.ok<|.fz<|.bool b) Y)<|k (.ok<|.fz<|.bool false) Y))
 | .bo j es,Y,k=>wpB q c j es Y k
 | .ite t a b,Y,k=>wp q c t Y<|up k fun x Y=>opt q (rvV x) fun d=>q.t (tD d) fun b'=>cnd b' (wp q c a Y<|up k fun r Y=>opt q (rvV r) fun j0_=>k (.ok r) Y)<|wp q c b Y<|up k fun r Y=>opt q (rvV r) fun j0_=>k (.ok r) Y
 | .idx a i,Y,k=>wp q c a Y<|up k fun x Y=>wp q c i Y<|up k fun y Y=>opt q (rvD Y x) fun d=>opt q (rvV y) fun e=>q.d (idxD d e) fun r=>k (.ok<|.fz r) Y
 | .slc a lo hi,Y,k=>wp q c a Y (up k fun x Y=>wp q c lo Y (up k fun y Y=>wp q c hi Y (up k fun z Y=>
   opt q (rvD Y x) fun d=>opt q (rvV y) fun l=>opt q (rvV z) fun h=>q.v (slcD d l h) fun r=>rvK q r<|k (.ok r) Y)))
 | .call f args,Y,k=>wpL q c args Y<|up k fun rs Y=>callW q c f [] rs Y k
 | .mcall f as args,Y,k=>wpL q c args Y<|up k fun rs Y=>callW q c f as rs Y k
 | .tin i e,Y,k=>wp q c e Y<|up k fun r Y=>opt q (rvV r) fun x=>opt q (tabAt Y[i]?) fun X=>q.t (keyOk x) fun b=>cnd b (q.t (tabGet x X).isNone fun b=>k (.ok<|.fz<|.bool b) Y) q.bad
 | .tget i e,Y,k=>wp q c e Y<|up k fun r Y=>opt q (rvV r) fun x=>opt q (tabAt Y[i]?) fun X=>q.t (keyOk x) fun b=>cnd b (q.d (tabGet x X) fun d=>k (.ok<|.fz d) Y) q.bad
 | .pop p,Y,k=>opt q (plOwn Y p) fun o=>q.d (popD o) fun x=>opt q (popV x) fun x=>nrm (plSet Y p<|.list x.1) fun Y=>k (.ok<|.fz x.2) Y
 | .bi b args,Y,k=>wpL q c args Y<|up k fun rs Y=>opt q (rvDs Y rs) fun X=>q.v (biD b X) fun r=>rvK q r<|k (.ok r) Y
 | .comp elt t it src conds,Y,k=>wpL q c src Y (up k fun rs Y=>opt q (rvVs rs) fun X=>q.l (iterD it X) fun items=>
   q.cp (compB c Y elt t conds items) (compU q (fun d Y k=>opt q (asgT c.pin Y t<|.fz d) fun Y=>nrm Y fun Y=>wpK q c conds Y<|up k fun b Y=>cnd b (wp q c elt Y<|up k fun r Y=>opt q (rvV r) fun x=>k (.ok<|some x) Y)<|k (.ok none) Y)
    (fun X Y=>compB c Y elt t conds X) (tgtVars t) items Y (cmK (tgtVars t) k)) (cmK (tgtVars t) k))
noncomputable def wpL(q:Q W)(c:Cfg) :List Ex→Fm→(aA (List Rv)→Fm→W)→W
 | [],Y,k=>k (.ok []) Y
 | e::es,Y,k=>wp q c e Y<|up k fun r Y=>wpL q c es Y<|up k fun rs Y=>k (.ok (r::rs)) Y
noncomputable def wpB(q:Q W)(c:Cfg)(j:Bool) :List Ex→Fm→(aA Rv→Fm→W)→W
 | [],_,_=>q.bad
 | e::es,Y,k=>wp q c e Y (up k fun r Y=>opt q (rvV r) fun d=>match es with
   | []=>k (.ok r) Y
   | _::_=>q.t (tD d) fun b=>cnd (b==j) (wpB q c j es Y k)<|k (.ok r) Y)
noncomputable def wpK(q:Q W)(c:Cfg) :List Ex→Fm→(aA Bool→Fm→W)→W
 | [],Y,k=>k (.ok true) Y
 | e::es,Y,k=>wp q c e Y<|up k fun r Y=>opt q (rvD Y r) fun d=>q.t (tD d) fun b=>cnd b (wpK q c es Y k)<|k (.ok false) Y
end
noncomputable def appK(q:Q W)(o:Option D)(Y:Fm)(p:Pl)(d:D)(k:aA Ctl→Fm→W) :W:=match o with
 | some (.list M)=>q.t (decide<|M.length<Sz) fun b=>cnd b (nrm (plSet Y p<|.list<|M++[d]) fun Y=>k (.ok .next) Y) q.bad
 | _=>q.bad
noncomputable def wpH(q:Q W)(e:Str) :List (Str×ax×D)→Fm→(aA Ctl→Fm→W)→W
 | [],_,_=>q.bad
 | p::hs,Y,k=>cnd (p.2.1.contains e) (k (.ok<|.ret<|.fz p.2.2) Y)<|wpH q e hs Y k
mutual
noncomputable def wpS(q:Q W)(c:Cfg) :St→Fm→(aA Ctl→Fm→W)→W
 | .asg t e,Y,k=>wp q c e Y<|up k fun r Y=>opt q (asgT c.pin Y t r) fun Y=>nrm Y fun Y=>k (.ok .next) Y
 | .setI p i e,Y,k=>wp q c e Y (up k fun r Y=>cnd (plOwn Y p).isSome (wp q c i Y (up k fun x Y=>opt q (rvV r) fun d=>opt q (rvV x) fun x=>opt q (plOwn Y p) fun o=>
   q.d (setD o x d) fun o'=>nrm (plSet Y p o') fun Y=>k (.ok .next) Y)) q.bad)
 | .app p e,Y,k=>cnd (ownL<|plOwn Y p) (wp q c e Y<|up k fun r Y=>opt q (rvV r) fun d=>appK q (plOwn Y p) Y p d k) q.bad
 | .exp e,Y,k=>wp q c e Y<|up k fun j0_ Y=>k (.ok .next) Y
 | .iff t a b,Y,k=>wp q c t Y<|up k fun x Y=>opt q (rvD Y x) fun d=>q.t (tD d) fun t=>cnd t (wpSs q c a Y k)<|wpSs q c b Y k
 | .ret e,Y,k=>wp q c e Y<|up k fun r Y=>rvK q r<|k (.ok<|.ret r) Y
 | .for_ t it src body tmp,Y,k=>wpL q c src Y (up k fun rs Y=>opt q (rvVs rs) fun X=>q.l (iterD it X) fun items=>
   q.lp (forB c Y t body tmp items) (forU q (fun d Y k=>opt q (asgT c.pin Y t<|.fz d) fun Y=>nrm Y fun Y=>wpSs q c body Y k) (fun X Y=>forB c Y t body tmp X) tmp items Y k) k)
 | .whl t body tmp,Y,k=>q.lp (whB c Y t body tmp Wz) q.bad k
 | .raise x,Y,k=>k (.error x) Y
 | .tryx body hs,Y,k=>wpSs q c body Y fun o Y=>match o with
  | .ok x=>k (.ok x) Y
  | .error e=>wpH q e hs Y k
 | .tab0 i,Y,k=>cnd (c.pin.contains i) q.bad<|nrm (Y.set i<|.tab []) fun Y=>k (.ok .next) Y
 | .tset i x e,Y,k=>wp q c e Y (up k fun r Y=>wp q c x Y (up k fun y Y=>opt q (rvV r) fun d=>opt q (rvV y) fun x=>opt q (tabAt Y[i]?) fun X=>q.t (decide<|keyOk x=true∧tabGet x X=none∧X.length<Sz) fun b=>cnd b
   (nrm (Y.set i<|.tab<|X++[(x,d)]) fun Y=>k (.ok .next) Y) q.bad))
 | .no,_,_=>q.bad
 | .rev p,Y,k=>opt q (plOwn Y p) fun o=>q.d (revD o) fun o=>nrm (plSet Y p o) fun Y=>k (.ok .next) Y
 | .mst f as rb args,Y,k=>wpL q c args Y<|up k fun rs Y=>cnd (rb.any (c.pin.contains ·)) q.bad<|callW q c f as rs Y<|up k fun j0_ Y=>k (.ok .next) Y
 | .new f as args body,Y,k=>wpL q c args Y<|up k fun rs Y=>opt q (rvVs rs) fun X=>q.c (c.call f<|newAts as++X.map .fz) fun r outs=>cnd (isN r) (nrm (setAts Y as outs) fun Y=>wpSs q c body Y fun o Y=>nrm (clr Y<|nx as) fun Y=>k o Y) q.bad
noncomputable def wpSs(q:Q W)(c:Cfg) :List St→Fm→(aA Ctl→Fm→W)→W
 | [],Y,k=>k (.ok .next) Y
 | s::ss,Y,k=>wpS q c s Y<|up k<|sqK (fun Y=>wpSs q c ss Y k) k
end
noncomputable def wWh(q:Q W)(c:Cfg)(t:Ex)(body:List St)(tmp:aw)(n:Nat)(Y:Fm)(k:aA Ctl→Fm→W) :W:=
 nrm (clr Y tmp) fun Y=>wp q c t Y<|up k fun x Y=>opt q (rvD Y x) fun d=>q.t (tD d) fun b=>cnd b (wpSs q c body Y<|forK q (fun Y=>whB c Y t body tmp n) (fun j0_=>q.bad) k)<|k (.ok .next) Y
noncomputable def wFor(q:Q W)(c:Cfg)(t:Tgt)(body:List St)(tmp:aw)(items:aB)(Y:Fm)(k:aA Ctl→Fm→W) :W:=
 forU q (fun d Y k=>opt q (asgT c.pin Y t<|.fz d) fun Y=>nrm Y fun Y=>wpSs q c body Y k) (fun X Y=>forB c Y t body tmp X) tmp items Y k
noncomputable def wComp(q:Q W)(c:Cfg)(elt:Ex)(t:Tgt)(conds:List Ex)(items:aB)(Y:Fm)(k:aA aB→Fm→W) :W:=
 compU q (fun d Y k=>opt q (asgT c.pin Y t<|.fz d) fun Y=>nrm Y fun Y=>wpK q c conds Y<|up k fun b Y=>cnd b (wp q c elt Y<|up k fun r Y=>opt q (rvV r) fun x=>k (.ok<|some x) Y)<|k (.ok none) Y)
    (fun X Y=>compB c Y elt t conds X) (tgtVars t) items Y k
noncomputable def wFn(q:Q W)(P:Pr)(n:Nat)(f:Nat)(args:List Slot)(k:Option (aA Rv×List Slot)→W) :W:=
 opt q P.fns[f]? fun fn=>cnd (decide<|args.length=fn.np) (nrm (args++List.replicate (fn.nv - fn.np) .no) fun Y=>wpSs q ⟨P.glob,cF P n,pinsM fn.na fn.rb args⟩ fn.body Y fun o Y=>k<|finF fn.na args<|some (o,Y)) q.bad
end
inductive It where
 | b (b:Bool) | v (r:Rv) | d (d:D) | l (l:aB)
 | lp (o:aA Ctl×Fm) | cp (o:aA aB×Fm) | c (r:aA Rv×List Slot)
noncomputable abbrev Tape:=List<|Nat×It
noncomputable def It.gb:It→Option Bool | .b x=>some x | _=>none
noncomputable def It.gv:It→Option Rv | .v x=>some x | _=>none
noncomputable def It.gd:It→Option D | .d x=>some x | _=>none
noncomputable def It.gl:It→Option aB | .l x=>some x | _=>none
noncomputable def It.glp:It→Option (aA Ctl×Fm) | .lp x=>some x | _=>none
noncomputable def It.gcp:It→Option (aA aB×Fm) | .cp x=>some x | _=>none
noncomputable def It.gc:It→Option (aA Rv×List Slot) | .c x=>some x | _=>none
noncomputable def ask{α:Type}(g:It→Option α)(x:Option α)(dflt:Tape→Prop)(f:α→Tape→Prop) :Tape→Prop
 | []=>dflt []
 | (n+1,i)::tp=>dflt ((n,i)::tp)
 | (0,i)::tp=>match g i with
  | none=>False
  | some y=>x=some y∧f y tp
noncomputable def just{α:Type}(x:Option α)(f:α→Tape→Prop) :Tape→Prop:=match x with
 | none=>fun j0_=>False
 | some a=>f a
noncomputable def askT(x:Bool)(f:Bool→Tape→Prop) :Tape→Prop
 | []=>f x []
 | (n+1,i)::tp=>f x ((n,i)::tp)
 | (0,i)::tp=>match i with
  | .b y=>x=y∧f y tp
  | _=>False
noncomputable def qT:Q (Tape→Prop) where
 bad:=fun j0_=>False
 b x f:=ask It.gb x (just x f) f
 t x f:=askT x f
 v x f:=ask It.gv x (just x f) f
 d x f:=ask It.gd x (just x f) f
 l x f:=ask It.gl x (just x f) f
 lp x u f:=ask It.glp x u fun o=>f o.1 o.2
 cp x u f:=ask It.gcp x u fun o=>f o.1 o.2
 c x f:=ask It.gc x (just x fun o=>f o.1 o.2) fun o=>f o.1 o.2
noncomputable def WGd{α:Type}(m:Out α)(k:aA α→Fm→Tape→Prop) :Prop:= ∃o Y tp,m=some (o,Y)∧k o Y tp
theorem WGd.ok{α:Type}{a:α}{Y:Fm}{k:aA α→Fm→Tape→Prop}{tp:Tape}(h:k (.ok a) Y tp) :WGd (some (.ok a,Y)) k:=⟨_,_,_,rfl,h⟩
theorem WGd.bind{α β:Type}{m:Out α}{k:aA β→Fm→Tape→Prop}{f:α→Fm→Tape→Prop}{g:Kt α β}
  (h:WGd m (up k f)) (H:∀a Y tp,f a Y tp→WGd (g.run a Y) k) :WGd (bnd m) k:=by
 obtain⟨o,Y,tp,rfl,h⟩:=h;cases o with
 | error e=>exact⟨_,_,tp,rfl,h⟩
 | ok a=>exact H a Y tp h
theorem WGd.bind'{α β:Type}{m:Out α}{k:aA β→Fm→Tape→Prop}{k':aA α→Fm→Tape→Prop}{g:Kt α β}
  (h:WGd m k') (He:∀e Y tp,k' (.error e) Y tp→k (.error e) Y tp) (H:∀a Y tp,k' (.ok a) Y tp→WGd (g.run a Y) k) :WGd (bnd m) k:=by
 obtain⟨o,Y,tp,rfl,h⟩:=h;cases o with
 | error e=>exact⟨_,_,tp,rfl,He _ _ _ h⟩
 | ok a=>exact H a Y tp h
theorem nrm_eq{W:Type} :∀(Y:Fm)(k:Fm→W),nrm Y k=k Y:=by intro Y k;induction Y generalizing k with
 | nil=>exact rfl
 | cons s Y ih=>exact ih _
theorem oK{α:Type}{x:Option α}{f:α→Tape→Prop}{tp:Tape}(h:opt qT x f tp) :∃a,x=some a∧f a tp:=by cases x with
 | none=>exact h.elim
 | some a=>exact⟨a,rfl,h⟩
theorem just_ok{α:Type}{x:Option α}{f:α→Tape→Prop}{tp:Tape}(h:just x f tp) :∃a tp,x=some a∧f a tp:=by cases x with
 | none=>exact h.elim
 | some a=>exact⟨a,tp,rfl,h⟩
theorem ask_ok{α:Type}{g:It→Option α}{x:Option α}{u:Tape→Prop}{f:α→Tape→Prop}{tp:Tape}(h:ask g x u f tp) :(∃tp,u tp)∨ ∃a tp,x=some a∧f a tp:=by
 match tp,h with
 | [],h=>exact .inl ⟨_,h⟩
 | (n+1,i)::tp,h=>exact .inl ⟨_,h⟩
 | (0,i)::tp,h=>have h:(match g i with | none=>False | some y=>x=some y∧f y tp):=h;cases hg:g i with
  | none=>rw[hg]at h;exact h.elim
  | some y=>rw[hg]at h;exact .inr ⟨y,tp,h⟩
theorem askJ_ok{α:Type}{g:It→Option α}{x:Option α}{f:α→Tape→Prop}{tp:Tape}(h:ask g x (just x f) f tp) :∃a tp,x=some a∧f a tp:=by
 rcases ask_ok h with⟨tp,h⟩ | h
 .exact just_ok h
 .exact h
theorem askT_ok{x:Bool}{f:Bool→Tape→Prop}{tp:Tape}(h:qT.t x f tp) :∃tp,f x tp:=by
 have h:askT x f tp:=h
 match tp,h with
 | [],h=>exact⟨_,h⟩
 | (n+1,i)::tp,h=>exact⟨_,h⟩
 | (0,.b y)::tp,h=>obtain⟨rfl,h⟩:=h;exact⟨_,h⟩
 | (0,.v _)::tp,h | (0,.d _)::tp,h | (0,.l _)::tp,h | (0,.lp _)::tp,h | (0,.cp _)::tp,h | (0,.c _)::tp,h=>exact h.elim
theorem rvK_ok{r:Rv}{x:Tape→Prop}{tp:Tape}(h:rvK qT r x tp) :(∀Y,okV Y (some r)=some (.ok r,Y))∧x tp:=by cases r with
 | pl p=>exact h.elim
 | fz d=>exact⟨fun j0_=>rfl,h⟩
 | ai d=>exact⟨fun j0_=>rfl,h⟩
theorem cnd_t{b:Bool}{x:Tape→Prop}{tp:Tape}(h:cnd b x qT.bad tp) :b=true∧x tp:=by cases b with
 | true=>exact⟨rfl,h⟩
 | false=>exact h.elim
theorem cnd_f{b:Bool}{x:Tape→Prop}{tp:Tape}(h:cnd b qT.bad x tp) :b=false∧x tp:=by cases b with
 | true=>exact h.elim
 | false=>exact⟨rfl,h⟩
def Im{β:Type}(k:aA β→Fm→Tape→Prop)(F:Tape→Prop)(m:Out β) :Prop:= ∀tp,F tp→WGd m k
section
variable {α β:Type}{k:aA β→Fm→Tape→Prop}{F G:Tape→Prop}{m m':Out β}{a:β}{Y:Fm}{x:Option α}
theorem im_ok:Im k (k (.ok a) Y) (some (.ok a,Y)):=fun tp h=>⟨_,_,tp,rfl,h⟩
theorem im_er{e:Str} :Im k (k (.error e) Y) (some (.error e,Y)):=fun tp h=>⟨_,_,tp,rfl,h⟩
theorem im_bad:Im k qT.bad m:=fun j0_ h=>h.elim
theorem im_bind{H:(aA α→Fm→Tape→Prop)→Tape→Prop}{q:Out α}{f:α→Fm→Tape→Prop}{g:α→Fm→Out β}(h1:∀k,Im k (H k) q)(h2:∀a Y,Im k (f a Y)<|g a Y) :Im k (H<|up k f) (@bnd α β q ⟨g⟩):=fun tp h=>by obtain⟨o,Y,tp,rfl,h⟩:=h1 _ tp h;cases o with
 | error e=>exact⟨_,_,tp,rfl,h⟩
 | ok a=>exact h2 a Y tp h
theorem im_o{f:α→Tape→Prop}{g:α→Out β}(H:∀a,Im k (f a)<|g a) :Im k (opt qT x f) (mo x g):=by cases x with
 | none=>exact im_bad
 | some a=>exact H a
theorem im_j{w:It→Option α}{f:α→Tape→Prop}{g:α→Out β}(H:∀a,Im k (f a)<|g a) :Im k (ask w x (just x f) f) (mo x g):=fun tp h=>by obtain⟨a,tp,h1,h'⟩:=askJ_ok h;subst h1;exact H a tp h'
theorem im_oO{u:α→β} :Im k (opt qT x fun a=>k (.ok<|u a) Y) (okO Y<|x.map u):=by cases x with
 | none=>exact im_bad
 | some a=>exact im_ok
theorem im_jO{w:It→Option α}{u:α→β} :Im k (ask w x (just x fun a=>k (.ok<|u a) Y) fun a=>k (.ok<|u a) Y) (okO Y<|x.map u):=fun tp h=>by obtain⟨a,tp,h1,h'⟩:=askJ_ok h;subst h1;exact im_ok tp h'
theorem im_t{b:Bool}{f:Bool→Tape→Prop}(H:Im k (f b) m) :Im k (qT.t b f) m:=fun tp h=>ex1 (askT_ok h) H
theorem im_c{b:Bool}(H:Im k F m)(H':Im k G m') :Im k (cnd b F G) (if b then m else m'):=by cases b with
 | true=>exact H
 | false=>exact H'
theorem im_e{b j:Bool}(H:Im k F m)(H':Im k G m') :Im k (cnd (b==j) F G) (if b=j then m else m'):=by revert b j;exact fun {b j}=>by cases b <;> cases j <;> first | exact H | exact H'
theorem im_d{p:Prop}[Decidable p](H:Im k F m)(H':Im k G m') :Im k (cnd (decide p) F G) (if p then m else m'):=by
 by_cases q:p
 .rw[if_pos q,decide_eq_true q];exact H
 .rw[if_neg q,decide_eq_false q];exact H'
theorem im_n{f:Fm→Tape→Prop}(H:Im k (f Y) m) :Im k (nrm Y f) m:=fun tp h=>H tp<|nrm_eq Y f▸h
theorem im_a{w:It→Option (aA β×Fm)}(H:Im k F m) :Im k (ask w m F fun o=>k o.1 o.2) m:=fun tp h=>by
 rcases ask_ok h with⟨tp,h⟩ | ⟨o,tp,h3,h⟩
 .exact H tp h
 .exact⟨o.1,o.2,tp,h3,h⟩
end
theorem im_up{α β:Type}{k:aA β→Fm→Tape→Prop}{f:α→Fm→Tape→Prop}{g:α→Fm→Out β}{o:aA α}{Y:Fm}(H:∀a Y,Im k (f a Y)<|g a Y) :Im k (up k f o Y) (@bnd α β (some (o,Y)) ⟨g⟩):=by cases o with
 | error e=>exact im_er
 | ok a=>exact H a Y
theorem im_V{k:aA Rv→Fm→Tape→Prop}{Y:Fm}{x:Option Rv} :Im k (qT.v x fun r=>rvK qT r<|k (.ok r) Y) (okV Y x):=fun tp h=>by obtain⟨r,tp,h1,h'⟩:=askJ_ok h;subst h1;cases r with
 | pl p=>exact h'.elim
 | fz d=>exact im_ok tp h'
 | ai d=>exact im_ok tp h'
theorem im_var{k:aA Rv→Fm→Tape→Prop}{Y:Fm}{i:Nat}{s:Option Slot} :Im k (varK qT s Y i k) (varE s Y i):=by
 rcases s with _ | _ | d | d | _
 .exact im_bad
 .exact im_bad
 .exact im_ok
 .exact im_n (Y:=Y.set i<|.fz d) im_ok
 .exact im_bad
theorem im_cm{k:aA Rv→Fm→Tape→Prop}{cl:aw}{F:Tape→Prop}{m:Out aB}(H:Im (cmK cl k) F m) :Im k F (bndCK cl m fun X Y=>some (.ok<|.ai<|.list X,Y)):=fun tp h=>by obtain⟨o,Y,tp,rfl,h⟩:=H tp h;cases o with
 | error e=>exact im_n im_er tp h
 | ok X=>exact im_ok tp h
theorem im_app{k:aA Ctl→Fm→Tape→Prop}{Y:Fm}{p:Pl}{d:D}{o:Option D} :Im k (appK qT o Y p d k) (appE o Y p d):=by
 rcases o with _ | o
 .exact im_bad
 .cases o with
  | list M=>exact im_t<|im_d (im_n im_ok) im_bad
  | _=>exact im_bad
theorem im_cp{k:aA aB→Fm→Tape→Prop}(r:Option D)(rs:aB)(Y:Fm) :Im k (cpK k r rs Y) (cpE r rs Y):=by cases r with
 | none=>exact im_ok
 | some r=>exact im_ok
theorem im_sq{k:aA Ctl→Fm→Tape→Prop}{F:Fm→Tape→Prop}{m:Fm→Out Ctl}(H:∀Y,Im k (F Y)<|m Y)(r:Ctl)(Y:Fm) :Im k (sqK F k r Y) (sqE m r Y):=by cases r with
 | next=>exact H Y
 | ret r=>exact im_ok
theorem im_ret{k:aA Ctl→Fm→Tape→Prop}{Y:Fm}{r:Rv} :Im k (rvK qT r<|k (.ok<|.ret r) Y) (retE r Y):=by cases r with
 | pl p=>exact im_bad
 | fz d=>exact im_ok
 | ai d=>exact im_ok
theorem forU_ok{c:Cfg}{t:Tgt}{body:List St}{tmp:aw}(H:∀Y k,Im k (wpSs qT c body Y k)<|exSs c body Y)(items:aB)(Y:Fm)(k:aA Ctl→Fm→Tape→Prop) :
  Im k (wFor qT c t body tmp items Y k) (forB c Y t body tmp items):=by
 induction items generalizing Y k with
 | nil=>exact im_ok
 | cons d X ih=>exact im_n<|im_bind (H:=fun k=>opt qT (asgT c.pin (clr Y tmp) t<|.fz d) fun Y=>nrm Y fun Y=>wpSs qT c body Y k) (q:=mo (asgT c.pin (clr Y tmp) t<|.fz d) fun Y=>exSs c body Y) (fun k=>im_o fun Y=>im_n<|H Y k)<|im_sq fun Y=>im_a<|ih Y k
theorem compU_ok{c:Cfg}{elt:Ex}{t:Tgt}{conds:List Ex}(H:∀Y k,Im k (wp qT c elt Y k)<|ev c elt Y)(H':∀Y k,Im k (wpK qT c conds Y k)<|evConds c conds Y)(items:aB)(Y:Fm)(k:aA aB→Fm→Tape→Prop) :
  Im k (wComp qT c elt t conds items Y k) (compB c Y elt t conds items):=by
 induction items generalizing Y k with
 | nil=>exact im_ok
 | cons d X ih=>
  exact im_n (im_bind (H:=fun k=>opt qT (asgT c.pin (clr Y<|tgtVars t) t<|.fz d) fun Y=>nrm Y fun Y=>wpK qT c conds Y<|up k fun b Y=>cnd b (wp qT c elt Y<|up k fun r Y=>opt qT (rvV r) fun x=>k (.ok<|some x) Y)<|k (.ok none) Y)
   (q:=mo (asgT c.pin (clr Y<|tgtVars t) t<|.fz d) fun Y=>bndK (evConds c conds Y) fun b Y=>if b then bndK (ev c elt Y) fun r Y=>okO Y ((rvV r).map some) else some (.ok none,Y))
   (fun k=>im_o fun Y=>im_n<|im_bind (H' Y) fun b Y=>im_c (im_bind (H Y) fun r Y=>im_oO) im_ok)
   fun r Y=>im_bind (H:=fun k=>qT.cp (compB c Y elt t conds X) (wComp qT c elt t conds X Y k) k) (fun k=>im_a<|ih Y k)<|im_cp r)
set_option maxRecDepth 4000
theorem callW_ok{c:Cfg}{f:Nat}{as:aw}{rs:List Rv}{Y:Fm}{k:aA Rv→Fm→Tape→Prop} :Im k (callW qT c f as rs Y k) (callM c f as rs Y):=by exact im_o fun ss=>im_d (im_j fun o=>im_n<|im_up fun r Y=>im_o fun j0_=>im_ok) im_bad
theorem fzK_ok{r:aA Rv}{f:D→Tape→Prop}{tp:Tape}(h:fzK qT r f tp) :∃d,r = .ok (.fz d)∧f d tp:=by
 rcases r with _ | _ | _ | _
 .exact h.elim
 .exact⟨_,rfl,h⟩
 .exact h.elim
 .exact h.elim
structure WL(c:Cfg)(es:List Ex) :Prop where
 l:∀Y k,Im k (wpL qT c es Y k)<|evs c es Y
 b:∀j Y k,Im k (wpB qT c j es Y k)<|evB c j es Y
 k:∀Y k,Im k (wpK qT c es Y k)<|evConds c es Y
theorem WL.nil(c:Cfg) :WL c []:=⟨fun j0_ j1_=>im_ok,fun j0_ j1_ j2_=>im_bad,fun j0_ j1_=>im_ok⟩
theorem WL.cons{c:Cfg}{e:Ex}{es:List Ex}(h:∀Y k,Im k (wp qT c e Y k)<|ev c e Y)(H:WL c es) :WL c (e::es):=
 ⟨fun Y k=>im_bind (h Y) fun r Y=>im_bind (H.l Y) fun rs Y=>im_ok,
  fun j Y k=>im_bind (h Y) fun r Y=>im_o fun d=>by
  cases es with
  | nil=>exact im_ok
  | cons e' es=>exact im_t<|im_e (H.b j Y k) im_ok,
  fun Y k=>im_bind (h Y) fun r Y=>im_o fun d=>im_t<|im_c (H.k Y k) im_ok⟩
theorem wp_ok(c:Cfg)(e:Ex) :∀Y k,Im k (wp qT c e Y k) (ev c e Y):=
 Ex.rec (motive_1:=fun e=> ∀Y k,Im k (wp qT c e Y k)<|ev c e Y) (motive_2:=WL c)
  (fun d Y k=>im_ok)
  (fun i Y k=>im_o fun d=>im_ok)
  (fun i Y k=>im_var)
  (fun p Y k=>im_c im_ok im_bad)
  (fun es H Y k=>im_bind (H.l Y) fun rs Y=>im_oO)
  (fun es H Y k=>im_bind (H.l Y) fun rs Y=>im_oO)
  (fun o a b ha hb Y k=>im_bind (ha Y) fun x Y=>im_bind (hb Y) fun y Y=>im_o fun d=>im_o fun e=>im_V)
  (fun a ha Y k=>im_bind (ha Y) fun x Y=>im_o fun d=>im_oO)
  (fun a ha Y k=>im_bind (ha Y) fun x Y=>im_o fun d=>im_t im_ok)
  (fun o a b ha hb Y k=>im_bind (ha Y) fun x Y=>im_bind (hb Y) fun y Y=>im_o fun d=>im_o fun e=>im_jO)
  (fun o p a b e ha hb he Y k=>im_bind (ha Y) fun x Y=>im_bind (hb Y) fun y Y=>im_o fun d=>im_o fun e=>im_j fun t=>im_t<|im_c (im_bind (he Y) fun z Y=>im_o fun d=>im_jO) im_ok)
  (fun j es H Y k=>H.b j Y k)
  (fun t a b ht ha hb Y k=>im_bind (ht Y) fun x Y=>im_o fun d=>im_t<|im_c (im_bind (ha Y) fun r Y=>im_o fun j0_=>im_ok)<|im_bind (hb Y) fun r Y=>im_o fun j0_=>im_ok)
  (fun a i ha hi Y k=>im_bind (ha Y) fun x Y=>im_bind (hi Y) fun y Y=>im_o fun d=>im_o fun e=>im_jO)
  (fun a lo hi ha hl hh Y k=>im_bind (ha Y) fun x Y=>im_bind (hl Y) fun y Y=>im_bind (hh Y) fun z Y=>im_o fun d=>im_o fun l=>im_o fun h=>im_V)
  (fun f args H Y k=>im_bind (H.l Y) fun rs Y=>callW_ok)
  (fun b args H Y k=>im_bind (H.l Y) fun rs Y=>im_o fun X=>im_V)
  (fun elt t it src conds he hs hc Y k=>im_bind (hs.l Y) fun rs Y=>im_o fun X=>im_j fun items=>im_cm<|im_a (m:=compB c Y elt t conds items)<|compU_ok he hc.k items Y _)
  (fun f as args H Y k=>im_bind (H.l Y) fun rs Y=>callW_ok)
  (fun i e he Y k=>im_bind (he Y) fun r Y=>im_o fun x=>im_o fun X=>im_t<|im_c (im_t im_ok) im_bad)
  (fun i e he Y k=>im_bind (he Y) fun r Y=>im_o fun x=>im_o fun X=>im_t<|im_c im_jO im_bad)
  (fun p Y k=>im_o fun o=>im_j fun x=>im_o fun x=>im_n im_ok)
  (WL.nil c) (fun e es h H=>H.cons h) e
theorem wl_ok(c:Cfg)(es:List Ex) :WL c es:=by induction es with
 | nil=>exact WL.nil c
 | cons e es ih=>exact ih.cons<|wp_ok c e
theorem wpH_ok{e:Str}{Y:Fm}{k:aA Ctl→Fm→Tape→Prop}(hs:List (Str×ax×D)) :Im k (wpH qT e hs Y k) (exH e hs Y):=by induction hs with
 | nil=>exact im_bad
 | cons p hs ih=>exact im_c im_ok ih
theorem wpS_ok(c:Cfg)(s:St) :∀Y k,Im k (wpS qT c s Y k) (exS c s Y):=
 St.rec (motive_1:=fun s=> ∀Y k,Im k (wpS qT c s Y k)<|exS c s Y) (motive_2:=fun s=> ∀Y k,Im k (wpSs qT c s Y k)<|exSs c s Y)
  (fun t e Y k=>im_bind (wp_ok c e Y) fun r Y=>im_o fun Y=>im_n im_ok)
  (fun p i e Y k=>im_bind (wp_ok c e Y) fun r Y=>im_c (im_bind (wp_ok c i Y) fun x Y=>im_o fun d=>im_o fun x=>im_o fun o=>im_j fun o=>im_n im_ok) im_bad)
  (fun p e Y k=>im_c (im_bind (wp_ok c e Y) fun r Y=>im_o fun d=>im_app) im_bad)
  (fun e Y k=>im_bind (wp_ok c e Y) fun r Y=>im_ok)
  (fun t a b ha hb Y k=>im_bind (wp_ok c t Y) fun x Y=>im_o fun d=>im_t<|im_c (ha Y k)<|hb Y k)
  (fun e Y k=>im_bind (wp_ok c e Y) fun r Y=>im_ret)
  (fun t it src body tmp H Y k=>(im_bind ((wl_ok c src).l Y) fun rs Y=>im_o fun X=>im_j fun items=>im_a (m:=forB c Y t body tmp items)<|forU_ok H items Y k))
  (fun t body tmp H Y k=>(im_a (m:=whB c Y t body tmp Wz) im_bad))
  (fun f as args body H Y k=>(im_bind ((wl_ok c args).l Y) fun rs Y=>im_o fun X=>im_j fun o=>im_c (im_n fun tp h=>by obtain⟨o,fr',tp,h4,h⟩:=H _ _ _ h;rw[h4];rw[nrm_eq]at h;exact⟨_,_,tp,rfl,h⟩) im_bad))
  (fun x Y k=>im_er)
  (fun body hs H Y k=>fun tp h=>by obtain⟨o,Y,tp,h1,h⟩:=H _ _ _ h;rw[exS_tryx,h1];cases o with
   | error e=>exact wpH_ok hs tp h
   | ok x=>exact im_ok tp h)
  (fun p Y k=>im_o fun o=>im_j fun o=>im_n im_ok)
  (fun f as rb args Y k=>im_bind ((wl_ok c args).l Y) fun rs Y=>im_c im_bad<|im_bind (fun k=>callW_ok) fun j0_ Y=>im_ok)
  (fun i Y k=>im_c im_bad<|im_n im_ok)
  (fun i x e Y k=>im_bind (wp_ok c e Y) fun r Y=>im_bind (wp_ok c x Y) fun z Y=>im_o fun d=>im_o fun x=>im_o fun X=>im_t<|im_d (im_n im_ok) im_bad)
  (fun Y k=>im_bad)
  (fun Y k=>im_ok)
  (fun s ss hs H Y k=>im_bind (hs Y)<|im_sq fun Y=>H Y k)
  s
theorem wpSs_ok(c:Cfg)(ss:List St) :∀Y k,Im k (wpSs qT c ss Y k) (exSs c ss Y):=by induction ss with
 | nil=>exact fun Y k=>im_ok
 | cons s ss ih=>exact fun Y k=>im_bind (wpS_ok c s Y)<|im_sq fun Y=>ih Y k
theorem e_intD(a b:Int) :eqD (.int a) (.int b)=some (decide<|a=b):=by rw[e_int];congr 1
theorem c_eqS(a b:Str) :cmpD .eq (.str a) (.str b)=some (decide<|a=b):=Mv.e_strD a b
theorem c_eqI(a b:Int) :cmpD .eq (.int a) (.int b)=some (decide<|a=b):=e_intD a b
theorem c_eqi(a b:Int) :cmpD .eq (.int a) (.int b)=some (a==b):=rfl
theorem c_eq(a b:D) :cmpD .eq a b=eqD a b:=rfl
theorem c_ne(a b:D) :cmpD .ne a b=(eqD a b).map (!·):=rfl
theorem c_lt(a b:Int) :cmpD .lt (.int a) (.int b)=some (decide<|a<b):=rfl
theorem c_gt(a b:Int) :cmpD .gt (.int a) (.int b)=some (decide<|b<a):=rfl
theorem c_ge(a b:Int) :cmpD .ge (.int a) (.int b)=some (decide<|b≤a):=rfl
theorem it_range(n:Int) :iterD .range [.int n]=if -1000000000≤n∧n≤(Sz:Int) then some (rangeL 0 n.toNat) else none:=rfl
section
variable {a b:Int}{p:Prop}[Decidable p]{k n:Nat}
theorem ltT(h:a<b) :cmpD .lt (.int a) (.int b)=some true:=congrArg some<|decide_eq_true h
theorem ltF(h:¬a<b) :cmpD .lt (.int a) (.int b)=some false:=congrArg some<|decide_eq_false h
theorem gtT(h:b<a) :cmpD .gt (.int a) (.int b)=some true:=congrArg some<|decide_eq_true h
theorem gtF(h:¬b<a) :cmpD .gt (.int a) (.int b)=some false:=congrArg some<|decide_eq_false h
theorem geT(h:b≤a) :cmpD .ge (.int a) (.int b)=some true:=congrArg some<|decide_eq_true h
theorem geF(h:¬b≤a) :cmpD .ge (.int a) (.int b)=some false:=congrArg some<|decide_eq_false h
theorem eqT(h:a=b) :cmpD .eq (.int a) (.int b)=some true:=(c_eqI a b).trans<|congrArg some<|decide_eq_true h
theorem eqF(h:¬a=b) :cmpD .eq (.int a) (.int b)=some false:=(c_eqI a b).trans<|congrArg some<|decide_eq_false h
theorem modE(h:¬b=0) :op2 .mod (.int a) (.int b)=some (.fz<|.int<|a.fmod b):=if_neg h
theorem modI{c:Int}(e:b=c)(h:¬c=0) :op2 .mod (.int a) (.int b)=some (.fz<|.int<|a.fmod c):=by subst e;exact if_neg h
theorem strT{a b:Str}(h:a=b) :cmpD .eq (.str a) (.str b)=some true:=(c_eqS a b).trans<|congrArg some<|decide_eq_true h
theorem strF{a b:Str}(h:¬a=b) :cmpD .eq (.str a) (.str b)=some false:=(c_eqS a b).trans<|congrArg some<|decide_eq_false h
theorem fdE(h:b≠0∧b.natAbs<2 ^ 64) :op2 .fdiv (.int a) (.int b)=some (.fz<|.int<|a.fdiv b):=if_pos h
end
structure F where
 n:Nat
 it:It
 A:Prop
 pf:A
noncomputable abbrev F.b(n:Nat){x:Option Bool}{y:Bool}(h:x=some y) :F:=⟨n,.b y,x=some y,h⟩
noncomputable abbrev F.t(n:Nat){x y:Bool}(h:x=y) :F:=⟨n,.b y,x=y,h⟩
noncomputable abbrev F.v(n:Nat){x:Option Rv}{y:Rv}(h:x=some y) :F:=⟨n,.v y,x=some y,h⟩
noncomputable abbrev F.d(n:Nat){x:Option D}{y:D}(h:x=some y) :F:=⟨n,.d y,x=some y,h⟩
noncomputable abbrev F.l(n:Nat){x:Option aB}{y:aB}(h:x=some y) :F:=⟨n,.l y,x=some y,h⟩
noncomputable abbrev F.lp(n:Nat){x:Out Ctl}{y:aA Ctl×Fm}(h:x=some y) :F:=⟨n,.lp y,x=some y,h⟩
noncomputable abbrev F.cp(n:Nat){x:Out aB}{y:aA aB×Fm}(h:x=some y) :F:=⟨n,.cp y,x=some y,h⟩
noncomputable abbrev F.c(n:Nat){x:Option (aA Rv×List Slot)}{y:aA Rv×List Slot}(h:x=some y) :F:=⟨n,.c y,x=some y,h⟩
noncomputable def tapeOf:List F→Tape
 | []=>[]
 | f::fs=>(f.n,f.it)::tapeOf fs
noncomputable def allA(R:Prop) :List F→Prop
 | []=>R
 | f::fs=>f.A∧allA R fs
theorem allA_ok{R:Prop}(h:R) :∀fs,allA R fs:=by intro fs;induction fs with
 | nil=>exact h
 | cons f fs ih=>exact⟨f.pf,ih⟩
theorem callF_c{P:Pr}{n:Nat}{f:Nat}{args:List Slot} :cF P (n+1) f args=(match P.fns[f]? with
  | none=>none
  | some fn=>if args.length=fn.np then finF fn.na args (exSs ⟨P.glob,cF P n,pinsM fn.na fn.rb args⟩ fn.body<|args++List.replicate (fn.nv - fn.np) .no) else none):=rfl
theorem wkF(fs:List F){P:Pr}{n:Nat}{f:Nat}{args:List Slot}{R R':Option (aA Rv×List Slot)}(hR:R'=R)
  (h:allA (R'=R) fs=wFn qT P n f args (fun r j0_=>r=R) (tapeOf fs)) :cF P (n+1) f args=R:=by
 have h:=Eq.mp h<|allA_ok hR fs;obtain⟨fn,h1,h⟩:=oK h;obtain⟨h2,h⟩:=cnd_t h;rw[nrm_eq]at h;obtain⟨o,Y,tp,h3,h⟩:=wpSs_ok _ _ _ _ _ h;rw[callF_c,h1];dsimp only;rw[if_pos<|of_decide_eq_true h2,h3];exact h
theorem wkL(fs:List F){c:Cfg}{Y:Fm}{t:Tgt}{body:List St}{tmp:aw}{items:aB}{R R':Out Ctl}(hR:R'=R)
  (h:allA (R'=R) fs=wFor qT c t body tmp items Y (fun o Y j0_=>some (o,Y)=R) (tapeOf fs)) :forB c Y t body tmp items=R:=by
 obtain⟨o,Y,tp,h3,h⟩:=forU_ok (wpSs_ok c body) _ _ _ _<|Eq.mp h<|allA_ok hR fs;rw[h3,h]
theorem whU_ok{c:Cfg}{Y:Fm}{t:Ex}{body:List St}{tmp:aw}{n:Nat}{k:aA Ctl→Fm→Tape→Prop} :Im k (wWh qT c t body tmp n Y k) (whB c Y t body tmp<|n+1):=
 im_n (im_bind (H:=fun k=>wp qT c t (clr Y tmp)<|up k fun x Y=>opt qT (rvD Y x) fun d=>qT.t (tD d) fun b=>k (.ok b) Y) (q:=bndK (ev c t<|clr Y tmp) fun r Y=>mo (rvD Y r) fun d=>some (.ok<|tD d,Y))
  (f:=fun b Y=>cnd b (wpSs qT c body Y<|forK qT (fun Y=>whB c Y t body tmp n) (fun j0_=>qT.bad) k)<|k (.ok .next) Y)
  (fun k=>im_bind (wp_ok c t _) fun x Y=>im_o fun d=>im_t im_ok) (fun b Y=>by cases b with
   | false=>exact im_ok
   | true=>exact im_bind (wpSs_ok c body Y)<|im_sq fun Y=>im_a im_bad))
theorem wkW(fs:List F){c:Cfg}{Y:Fm}{t:Ex}{body:List St}{tmp:aw}{n:Nat}{R R':Out Ctl}(hR:R'=R)
  (h:allA (R'=R) fs=wWh qT c t body tmp n Y (fun o Y j0_=>some (o,Y)=R) (tapeOf fs)) :whB c Y t body tmp (n+1)=R:=by
 obtain⟨o,Y,tp,h3,h⟩:=whU_ok _<|Eq.mp h<|allA_ok hR fs;rw[h3,h]
theorem wkC(fs:List F){c:Cfg}{Y:Fm}{elt:Ex}{t:Tgt}{conds:List Ex}{items:aB}{R R':Out aB}(hR:R'=R)
  (h:allA (R'=R) fs=wComp qT c elt t conds items Y (fun o Y j0_=>some (o,Y)=R) (tapeOf fs)) :compB c Y elt t conds items=R:=by
 obtain⟨o,Y,tp,h3,h⟩:=compU_ok (wp_ok c elt) (wl_ok c conds).k _ _ _ _<|Eq.mp h<|allA_ok hR fs;rw[h3,h]
end Mv
end
section
namespace Mv
open PySem
theorem keyDs_c{x:D}{M:aB}(h:keyDs (x::M)=true) :keyD x=true∧keyDs M=true:=Bool.and_eq_true_iff.mp h
theorem keyDs_iff{M:aB} :keyDs M=true ↔ ∀x∈M,keyD x=true:=by induction M with
 | nil=>exact⟨fun j0_ j1_ h=>(List.not_mem_nil h).elim,fun j0_=>rfl⟩
 | cons x M ih=>exact⟨fun h y hy=>(List.mem_cons.mp hy).elim (fun e=>e▸(keyDs_c h).1)<|ih.mp (keyDs_c h).2 y,fun h=>Bool.and_eq_true_iff.mpr ⟨h x List.mem_cons_self,ih.mpr fun y hy=>h y<|List.mem_cons_of_mem _ hy⟩⟩
theorem key_rec{ah:D→Prop}(hi:∀i,ah<|.int i)(hs:∀s,ah<|.str s)(ht:∀M:aB,keyDs M=true→(∀x∈M,ah x)→ah (.tuple M))(d:D) :keyD d=true→ah d:=
 PyData.rec (motive_1:=fun d=>keyD d=true→ah d) (motive_2:=fun X=>keyDs X=true→ ∀x∈X,ah x) (motive_3:=fun j0_=>True) (motive_4:=fun j0_=>True)
  (fun h=>Bool.noConfusion h) (fun j0_ h=>Bool.noConfusion h) (fun i j0_=>hi i) (fun s j0_=>hs s) (fun j0_ j1_ h=>Bool.noConfusion h) (fun M ih h=>ht M h<|ih h) (fun j0_ j1_ h=>Bool.noConfusion h)
  (fun j0_ j1_ h=>by exact nomatch h) (fun x M a b h y hy=>(List.mem_cons.mp hy).elim (fun e=>e▸a (keyDs_c h).1)<|b (keyDs_c h).2 y) trivial (fun j0_ j1_ j2_ j3_=>trivial) (fun j0_ j1_ j2_ j3_=>trivial) d
theorem eqv_ii(a b:Int) :PyData.eqv (.int a) (.int b)=(a==b):=by rw[PyData.eqv]
theorem eqv_ss(a b:Str) :PyData.eqv (.str a) (.str b)=(a==b):=by rw[PyData.eqv]
theorem eqv_tt(a b:aB) :PyData.eqv (.tuple a) (.tuple b)=PyData.eqvAll a b:=by rw[PyData.eqv]
theorem eqv_cc(x y:D)(M ys:aB) :PyData.eqvAll (x::M) (y::ys)=(PyData.eqv x y&&PyData.eqvAll M ys):=by rw[PyData.eqvAll]
theorem key_eqv(a:D)(ha:keyD a=true) :∀b,keyD b=true→PyData.eqv a b=true→a=b:=by
 refine key_rec (ah:=fun a=> ∀b,keyD b=true→PyData.eqv a b=true→a=b) ?_ ?_ ?_ a ha
 .intro i b hb h;cases b with
  | int j=>rw[eqv_ii]at h;exact congrArg _<|beq_iff_eq.mp h
  | str s=>rw[PyData.eqv]at h;exact tf h
  | tuple s=>rw[PyData.eqv]at h;exact tf h
  | _=>exact tf hb
 .intro i b hb h;cases b with
  | int j=>rw[PyData.eqv]at h;cases h
  | str s=>rw[eqv_ss]at h;exact congrArg _<|beq_iff_eq.mp h
  | tuple s=>rw[PyData.eqv]at h;cases h
  | _=>exact tf hb
 .intro M hx ih b hb h;cases b with
  | int j=>rw[PyData.eqv]at h;exact tf h
  | str s=>rw[PyData.eqv]at h;exact tf h
  | tuple ys=>rw[eqv_tt]at h;refine congrArg _ ?_;replace hb:keyDs ys=true:=hb;clear ha hx;induction M generalizing ys with
   | nil=>cases ys with
    | nil=>rfl
    | cons y ys=>rw[PyData.eqvAll]at h;exact tf h
   | cons x M IH=>cases ys with
    | nil=>rw[PyData.eqvAll]at h;exact tf h
    | cons y ys=>rw[eqv_cc,Bool.and_eq_true]at h;exact O (ih x List.mem_cons_self y (keyDs_c hb).1 h.1)<|O (IH (fun z hz=>ih z<|List.mem_cons_of_mem _ hz) ys h.2 (keyDs_c hb).2) rfl
  | _=>cases hb
theorem key_refl(a:D)(ha:keyD a=true) :PyData.eqv a a=true:=by refine key_rec (ah:=fun a=>PyData.eqv a a=true) (fun i=>by rw[eqv_ii];exact beq_iff_eq.mpr rfl) (fun i=>by rw[eqv_ss];exact beq_iff_eq.mpr rfl) (fun M hx ih=>?_) a ha;rw[eqv_tt];clear hx ha;induction M with
 | nil=>rw[PyData.eqvAll]
 | cons x M IH=>rw[eqv_cc,ih x List.mem_cons_self];refine O (IH fun z hz=>ih z<|List.mem_cons_of_mem _ hz) ?_;rfl
theorem key_ne{a b:D}(ha:keyD a=true)(hb:keyD b=true)(h:a≠b) :PyData.eqv a b=false:=by cases q:PyData.eqv a b with
 | false=>rfl
 | true=>exact absurd (key_eqv a ha b hb q) h
theorem depth_mem{d:D} :∀{X:aB},d∈X→d.depth≤PyData.depthAll X:=by intro X;induction X with
 | nil=>intro h;exact nomatch h
 | cons x X IH=>
  intro hd;rcases List.mem_cons.mp hd with rfl | hd
  .exact Nat.le_max_left _ _
  .exact Nat.le_trans (IH hd) (Nat.le_max_right _ _)
theorem nd_key(d:D)(h:keyD d=true) :noDict d=true:=by refine key_rec (ah:=fun d=>noDict d=true) (fun j0_=>rfl) (fun j0_=>rfl) (fun M hx ih=>?_) d h;clear hx;induction M with
 | nil=>rfl
 | cons x M IH=>exact Bool.and_eq_true_iff.mpr ⟨ih x List.mem_cons_self,IH fun y hy=>ih y<|List.mem_cons_of_mem _ hy⟩
end Mv
end
section
set_option backward.match.sparseCases false
namespace Mv
open PySem
mutual
noncomputable def hashD(w:World) :D→Int
 | .int i=>hashInt i
 | .str x=>hashStr w x
 | .tuple M=>reduceHash<|Builtin.Tuple.tupleHashOf<|hashDs w M
 | _=>0
noncomputable def hashDs(w:World) :aB→List Int
 | []=>[]
 | x::M=>hashD w x::hashDs w M
end
mutual
noncomputable def drD:D→Nat
 | .tuple M=>drDs M+1
 | _=>1
noncomputable def drDs:aB→Nat
 | []=>0
 | x::M=>drD x+drDs M
end
section
variable {prog:Program}{w:World}{E:Value→Shared→Prop}
theorem dep_c{x:D}{M:aB}{n:Nat}(h:PyData.depthAll (x::M)≤n) :x.depth≤n∧PyData.depthAll M≤n:=Nat.max_le.mp h
theorem key_hash(d:D)(hk:keyD d=true) :∀(v:Value)(as:List Addr)(A:Around)(s:Shared)(Q:Int→Shared→Prop),Reads s.heap v d as→A.units+d.depth<cLine→Q (hashD w d) {s with toks:=s.toks+drD d}→wpAny (model prog w) A (pyHash v) Q E s:=by
 refine key_rec (ah:=fun d=> ∀(v:Value)(as:List Addr)(A:Around)(s:Shared)(Q:Int→Shared→Prop),Reads s.heap v d as→A.units+d.depth<cLine→Q (hashD w d) {s with toks:=s.toks+drD d}→wpAny (model prog w) A (pyHash v) Q E s) ?_ ?_ ?_ d hk
 .intro i v as A s Q x _ h;cases x;exact wpAny_pyHash_int h
 .intro i v as A s Q x _ h;cases x;exact wpAny_pyHash_str h
 .intro M _ ih v as A s Q x hu h;cases x with
  | @tuple a o vs n _ as hg hc hd hw=>
   have hu:A.units+(PyData.depthAll M+1)<cLine:=hu;refine W.pyHash_slot (T:="tuple") ⟨_,hg,hc⟩ F.slot_tuple_hash F.entry_tuple_hash (F.args_tuple_hash_1 _) (beq_builtin_none _) (.inr (Nat.lt_of_le_of_lt (Nat.le_add_right _ _) hu)) ?_;show wpAny _ _ (Builtin.Tuple.tupleItemsOf (.ref a) >>= _) _ _ s
   refine wpAny_bind<|wpAny_tupleItemsOf hg hd ?_;refine wpAny_bind ?_;refine O Array.forIn_toList.symm ?_;have lp:∀(M:aB),(∀x∈M, ∀(v:Value)(as:List Addr)(A:Around)(s:Shared)(Q:Int→Shared→Prop),Reads s.heap v x as→A.units+x.depth<cLine→Q (hashD w x) {s with toks:=s.toks+drD x}→wpAny (model prog w) A (pyHash v) Q (fun e s'=>E e s') s)→ ∀(vs:ay)(as:List Addr)(A:Around)(s:Shared)(b:Array Int)(Q:Array Int→Shared→Prop),ReadsAll s.heap vs M as→A.units+PyData.depthAll M<cLine→
     (∀b',b'.toList=b.toList++hashDs w M→Q b' {s with toks:=s.toks+drDs M})→
     wpAny (model prog w) A (forIn vs b fun x r=>do let h ← pyHash x;pure PUnit.unit;pure (ForInStep.yield<|r.push h)) Q E s:=by
    intro M;induction M with
    | nil=>intro _ vs as A s b Q x _ h;cases x;exact wpAny_pure<|h b (List.append_nil _).symm
    | cons k M IH=>intro ih vs as A s b Q x hu h;cases x with
     | cons x1 x2=>
      rw[List.forIn_cons];refine wpAny_bind<|wpAny_bind<|ih k List.mem_cons_self _ _ A s _ x1 (Nat.lt_of_le_of_lt (Nat.add_le_add_left (Nat.le_max_left _ _) _) hu) ?_;refine wpAny_bind<|wpAny_pure<|wpAny_pure ?_;refine IH (fun y hy=>ih y<|List.mem_cons_of_mem _ hy) _ _ A _ _ Q x2 (Nat.lt_of_le_of_lt (Nat.add_le_add_left (Nat.le_max_right _ _) _) hu) fun b' hb=>?_;have e:({s with toks:=s.toks+drD k+drDs M} :Shared)={s with toks:=s.toks+drDs (k::M)}:=by rw[Nat.add_assoc];rfl
      exact e▸h b' (by refine O hb ?_;rw[Array.toList_push,List.append_assoc];rfl)
   refine lp M ih _ _ A.in1 s #[] _ hw (by rw[Around.in1_units];exact Nat.lt_of_le_of_lt (Nat.le_of_eq (by rw[Nat.add_assoc,Nat.add_comm 1])) hu) fun b hb=>?_;show wpAny _ _ (retInt<|Builtin.Tuple.tupleHashOf b.toList) _ _ _
   exact O hb<|wpAny_bind<|wpAny_mkInt<|wpAny_pure ⟨_,_,rfl,h⟩
theorem key_keeps{h h':Heap}{d0:Addr}{o:Obj}{es ep}(ho:h.get? d0=some o)(hd:o.data = .dict es ep)(hs:Heap.SameBut d0 h h')(d:D)(hk:keyD d=true) :∀(v:Value)(as:List Addr),Reads h v d as→Reads h' v d as:=by
 refine key_rec (ah:=fun d=> ∀(v:Value)(as:List Addr),Reads h v d as→Reads h' v d as) ?_ ?_ ?_ d hk
 .intro i v as r;cases r;exact .int _ _
 .intro i v as r;cases r;exact .str _ _
 .intro M _ ih v as r;cases r with
  | @tuple a o' vs n _ as hg hc hq hw=>
   have lp:∀(M:aB),(∀x∈M, ∀(v:Value)(as:List Addr),Reads h v x as→Reads h' v x as)→ ∀(vs:ay)(as:List Addr),ReadsAll h vs M as→ReadsAll h' vs M as:=by intro M;induction M with
    | nil=>intro _ vs as r;cases r;exact .nil
    | cons x M IH=>intro ih vs as r;cases r with | cons r1 r2=>exact .cons (ih x List.mem_cons_self _ _ r1)<|IH (fun y hy=>ih y<|List.mem_cons_of_mem _ hy) _ _ r2
   refine .tuple (n:=n) ((hs.2 a fun e=>?_).trans hg) hc hq<|lp M ih _ _ hw;subst e;have ho:=hg▸ho;obtain rfl:=sos ho;have hd:=hq▸hd;exact nomatch hd
theorem key_quiet{A:Around}(d:D)(hk:keyD d=true) :∀(v:Value)(as:List Addr)(n:Nat)(s:Shared)(Q:Bool→Shared→Prop),Reads s.heap v d as→d.depth≤n→Q true s→wpAny (model prog w) A (eqIsQuiet n v) Q E s:=by
 refine key_rec (ah:=fun d=> ∀(v:Value)(as:List Addr)(n:Nat)(s:Shared)(Q:Bool→Shared→Prop),Reads s.heap v d as→d.depth≤n→Q true s→wpAny (model prog w) A (eqIsQuiet n v) Q E s) ?_ ?_ ?_ d hk
 .intro i v as n s Q x _ h;cases x;exact O (eqIsQuiet_byValue _ rfl)<|wpAny_pure h
 .intro i v as n s Q x _ h;cases x;exact O (eqIsQuiet_byValue _ rfl)<|wpAny_pure h
 .intro M hx0 ih v as n s Q x hu h;cases n with
  | zero=>exact(Nat.not_succ_le_zero _ hu).elim
  | succ n=>cases x with
   | @tuple a o vs m _ as hg hc hd hw=>
    unfold eqIsQuiet;refine wpAny_bind<|wpAny_specialOf (⟨_,hg,hc⟩) F.slot_tuple_eq.lookup ?_;refine wpAny_bind<|wpAny_isInstance (⟨_,hg,hc⟩) isSubtype_tuple_tuple ?_;simp only[Bool.not_true,Bool.false_eq_true,if_false];refine wpAny_bind<|wpAny_seqItems hg hd ?_;refine wpAny_bind ?_;refine O Array.forIn_toList.symm ?_;refine wpAny_forIn_list _ (fun rest r s'=>r.1=none∧s'=s∧ ∃X bs,(∀d∈X,d∈M)∧ReadsAll s.heap rest X bs) _ ?_ ?_ _ _ ⟨rfl,rfl,M,_,fun j0_ h=>h,hw⟩
    .rintro v rest r s' ⟨hr,rfl,X,bs,h1,h2⟩;cases h2 with
     | @cons _ _ d X as1 as2 r1 r2=>refine wpAny_bind<|ih d (h1 d List.mem_cons_self) _ _ n _ _ r1 (Nat.le_trans (depth_mem<|h1 d List.mem_cons_self)<|Nat.le_of_succ_le_succ hu) ?_;simp only[Bool.not_true,Bool.false_eq_true,if_false];exact wpAny_pure ⟨rfl,rfl,X,as2,fun x hx=>h1 x<|List.mem_cons_of_mem _ hx,r2⟩
    .rintro ⟨r1,r2⟩ s' ⟨hr,rfl,_⟩;simp only at hr;subst hr;exact wpAny_pure h
end
structure IsKey(h:Heap)(d:D)(a:Addr) :Prop where
 k:keyD d=true
 l:d.canLay0=true
 n:d.depth≤8
 r:∃as,Reads h (.ref a) d as
open Classical in
noncomputable def dataKind(prog:Program)(w:World) :HeapKind prog w D where
 is:=IsKey
 hash:=hashD w
 draws:=drD
 room A:=A.units+8<cLine
 inj:=fun x y=>let ⟨_,r⟩:=x.r;let ⟨_,r'⟩:=y.r;(Reads.unique r _ _ r').1
 keeps:=fun x ho hd hs=>let ⟨_,r⟩:=x.r;⟨x.k,x.l,x.n,_,key_keeps ho hd hs _ x.k _ _ r⟩
 pyHash:=fun {A E s k a Q} hu x h=>let ⟨_,r⟩:=x.r;key_hash _ x.k _ _ _ _ _ r (Nat.lt_of_le_of_lt (Nat.add_le_add_left x.n _) hu) h
 eqBool:=fun {A E s x y a b Q} hu p q h=>let ⟨_,r⟩:=p.r;let ⟨_,r'⟩:=q.r;SeqAt.eqBoolOverData prog w A E s _ _ x y _ _ Q r r' p.l q.l (Nat.lt_of_le_of_lt (Nat.add_le_add_left (Nat.le_trans (Nat.min_le_left _ _) p.n) _) hu) (by
  have e:PyData.eqv x y=decide (x=y):=by
   by_cases q':x=y
   .rw[decide_eq_true q',q'];exact key_refl y q.k
   .rw[decide_eq_false q'];exact key_ne p.k q.k q'
  rw[e];exact h)
 quiet:=fun x h=>let ⟨_,r⟩:=x.r;key_quiet _ x.k _ _ _ _ _ r x.n h
end Mv
end
section
set_option backward.match.sparseCases false
namespace Mv
open PySem PyProof.Rows
class Hp where
 w:World
 B:Heap
 mg:Str→Option Value
 mb:Str→Option Value
variable [Hp]
noncomputable abbrev prog:Program:=Hq.p
noncomputable abbrev w:World:=Hp.w
noncomputable abbrev B:Heap:=Hp.B
noncomputable abbrev mg:Str→Option Value:=Hp.mg
noncomputable abbrev mb:Str→Option Value:=Hp.mb
noncomputable def DictS(h:Heap)(a:Addr)(kvs:List (Str×Value)) :Prop:=(a==sysModules)=false∧h.DictOf (strKind prog w) a kvs
theorem DictS.at'{h h':Heap}{a:Addr}{kvs:List (Str×Value)}(k:∀o,h.get? a=some o→h'.get? a=some o)(x:DictS h a kvs) :DictS h' a kvs:=
 ⟨x.1,let ⟨o,es,ep,ho,r⟩:=x.2;⟨o,es,ep,k o ho,r⟩⟩
theorem DictS.live{h:Heap}{a:Addr}{kvs:List (Str×Value)}(x:DictS h a kvs) :∃o,h.get? a=some o:=let ⟨o,_,_,ho,_⟩:=x.2;⟨o,ho⟩
mutual
inductive Rep(h:Heap)(Z:Addr→Prop) :Value→D→Prop
 | none:Rep h Z .none .none
 | bool (b:Bool) :Rep h Z (.bool b) (.bool b)
 | int (i:Int) (t:Tok) :Rep h Z (.int i t) (.int i)
 | str (x:Str) (t:Tok) :PyData.strOk x=true→x.cps.size≤Sz→Rep h Z (.str x t) (.str x)
 | list {a:Addr} {vs:ay} {n:Nat} {X:aB} :Z a→IsL h a vs.toArray n→vs.length≤Sz→RepAll h Z vs X→Rep h Z (.ref a) (.list X)
 | tuple {a:Addr} {vs:ay} {n:Nat} {X:aB} :Z a→IsT h a vs.toArray n→vs.length≤Sz→RepAll h Z vs X→Rep h Z (.ref a) (.tuple X)
 | dict {a:Addr} {kvs:List (Str×Value)} {X:aC} :Z a→DictS h a kvs→kvs.length≤Sz→RepKV h Z kvs X→Rep h Z (.ref a) (.dict X)
inductive RepAll(h:Heap)(Z:Addr→Prop) :ay→aB→Prop
 | nil:RepAll h Z [] []
 | cons {v:Value} {vs:ay} {d:D} {X:aB} :Rep h Z v d→RepAll h Z vs X→RepAll h Z (v::vs) (d::X)
inductive RepKV(h:Heap)(Z:Addr→Prop) :List (Str×Value)→aC→Prop
 | nil:RepKV h Z [] []
 | cons {k:Str} {v:Value} {kvs:List (Str×Value)} {d:D} {X:aC} :PyData.strOk k=true→k.cps.size≤Sz→Rep h Z v d→RepKV h Z kvs X→RepKV h Z ((k,v)::kvs) ((.str k,d)::X)
end
section
variable {h h':Heap}{Z Z':Addr→Prop}
theorem rep_ind{P1:Value→D→Prop}{P2:ay→aB→Prop}{P3:List (Str×Value)→aC→Prop}(h0:P1 .none .none)(hb:∀b,P1 (.bool b)<|.bool b)(hi:∀i t,P1 (.int i t)<|.int i)
  (hs:∀(x:Str) t,PyData.strOk x=true→x.cps.size≤Sz→P1 (.str x t) (.str x)) (hl:∀{a:Addr}{vs:ay}{n:Nat}{X:aB},Z a→IsL h a vs.toArray n→vs.length≤Sz→P2 vs X→P1 (.ref a) (.list X))
  (ht:∀{a:Addr}{vs:ay}{n:Nat}{X:aB},Z a→IsT h a vs.toArray n→vs.length≤Sz→P2 vs X→P1 (.ref a) (.tuple X))
  (hd:∀{a:Addr}{kvs:List (Str×Value)}{X:aC},Z a→DictS h a kvs→kvs.length≤Sz→P3 kvs X→P1 (.ref a) (.dict X)) (n2:P2 [] []) (c2:∀{v:Value}{vs:ay}{d:D}{X:aB},P1 v d→P2 vs X→P2 (v::vs) (d::X))
  (n3:P3 [] []) (c3:∀{k:Str}{v:Value}{kvs:List (Str×Value)}{d:D}{X:aC},PyData.strOk k=true→k.cps.size≤Sz→P1 v d→P3 kvs X→P3 ((k,v)::kvs) ((.str k,d)::X)) :
  (∀{v:Value}{d:D},Rep h Z v d→P1 v d)∧(∀{vs:ay}{X:aB},RepAll h Z vs X→P2 vs X)∧ ∀{vs:List (Str×Value)}{X:aC},RepKV h Z vs X→P3 vs X:=
 have c2':∀{v:Value}{vs:ay}{d:D}{X:aB},Rep h Z v d→RepAll h Z vs X→P1 v d→P2 vs X→P2 (v::vs) (d::X):=fun j0_ j1_ a b=>c2 a b;have hl':∀{a:Addr}{vs:ay}{n:Nat}{X:aB},Z a→IsL h a vs.toArray n→vs.length≤Sz→RepAll h Z vs X→P2 vs X→P1 (.ref a) (.list X):=fun z g l j0_ e=>hl z g l e;have ht':∀{a:Addr}{vs:ay}{n:Nat}{X:aB},Z a→IsT h a vs.toArray n→vs.length≤Sz→RepAll h Z vs X→P2 vs X→P1 (.ref a) (.tuple X):=fun z g l j0_ e=>ht z g l e;have hd':∀{a:Addr}{kvs:List (Str×Value)}{X:aC},Z a→DictS h a kvs→kvs.length≤Sz→RepKV h Z kvs X→P3 kvs X→P1 (.ref a) (.dict X):=fun z g l j0_ e=>hd z g l e;have c3':∀{k:Str}{v:Value}{kvs:List (Str×Value)}{d:D}{X:aC},PyData.strOk k=true→k.cps.size≤Sz→Rep h Z v d→RepKV h Z kvs X→P1 v d→P3 kvs X→P3 ((k,v)::kvs) ((.str k,d)::X):=fun o l j0_ j1_ a b=>c3 o l a b
 ⟨fun r=>Rep.rec (motive_1:=fun v d j0_=>P1 v d) (motive_2:=fun vs X j0_=>P2 vs X) (motive_3:=fun vs X j0_=>P3 vs X) h0 hb hi hs hl' ht' hd' n2 c2' n3 c3' r,
  fun r=>RepAll.rec (motive_1:=fun v d j0_=>P1 v d) (motive_2:=fun vs X j0_=>P2 vs X) (motive_3:=fun vs X j0_=>P3 vs X) h0 hb hi hs hl' ht' hd' n2 c2' n3 c3' r,
  fun r=>RepKV.rec (motive_1:=fun v d j0_=>P1 v d) (motive_2:=fun vs X j0_=>P2 vs X) (motive_3:=fun vs X j0_=>P3 vs X) h0 hb hi hs hl' ht' hd' n2 c2' n3 c3' r⟩
theorem reps_mono(hk:∀a o,Z a→h.get? a=some o→h'.get? a=some o)(hz:∀a,Z a→Z' a) :(∀{v:Value}{d:D},Rep h Z v d→Rep h' Z' v d)∧(∀{vs:ay}{X:aB},RepAll h Z vs X→RepAll h' Z' vs X)∧ ∀{vs:List (Str×Value)}{X:aC},RepKV h Z vs X→RepKV h' Z' vs X:=
 rep_ind .none .bool .int .str (fun z g l r=>.list (hz _ z) (hk _ _ z g) l r) (fun z g l r=>.tuple (hz _ z) (hk _ _ z g) l r) (fun z g l r=>.dict (hz _ z) (g.at' fun o=>hk _ o z) l r) .nil .cons .nil .cons
theorem Rep.mono(hk:∀a o,Z a→h.get? a=some o→h'.get? a=some o)(hz:∀a,Z a→Z' a){v:Value}{d:D}(r:Rep h Z v d) :Rep h' Z' v d:=(reps_mono hk hz).1 r
theorem RepAll.mono(hk:∀a o,Z a→h.get? a=some o→h'.get? a=some o)(hz:∀a,Z a→Z' a){vs:ay}{X:aB}(r:RepAll h Z vs X) :RepAll h' Z' vs X:=(reps_mono hk hz).2.1 r
theorem RepKV.mono(hk:∀a o,Z a→h.get? a=some o→h'.get? a=some o)(hz:∀a,Z a→Z' a){vs:List (Str×Value)}{X:aC}(r:RepKV h Z vs X) :RepKV h' Z' vs X:=(reps_mono hk hz).2.2 r
theorem RepAll.ind{P:ay→aB→Prop}(n:P [] [])(c:∀{v:Value}{vs:ay}{d:D}{X:aB},Rep h Z v d→RepAll h Z vs X→P vs X→P (v::vs) (d::X)) :∀{vs:ay}{X:aB},RepAll h Z vs X→P vs X:=by intro vs x1 R;induction vs generalizing x1 with
 | nil=>cases R;exact n
 | cons v vs ih=>cases R with | cons a r=>exact c a r<|ih r
theorem RepKV.ind{P:List (Str×Value)→aC→Prop}(n:P [] [])(c:∀{k:Str}{v:Value}{vs:List (Str×Value)}{d:D}{X:aC},PyData.strOk k=true→k.cps.size≤Sz→Rep h Z v d→RepKV h Z vs X→P vs X→P ((k,v)::vs) ((.str k,d)::X)) :∀{vs:List (Str×Value)}{X:aC},RepKV h Z vs X→P vs X:=by intro vs x1 R;induction vs generalizing x1 with
 | nil=>cases R;exact n
 | cons _ vs ih=>cases R with | cons o l a r=>exact c o l a r<|ih r
theorem RepKV.length{vs:List (Str×Value)}{X:aC}(r:RepKV h Z vs X) :vs.length=X.length:=RepKV.ind (P:=fun vs X=>vs.length=X.length) rfl (fun j0_ j1_ j2_ j3_ e=>congrArg (· + 1) e) r
theorem RepKV.get{vs:List (Str×Value)}{X:aC}{k:Str}(r:RepKV h Z vs X) :(dgetL X k=none∧valueAt vs k=none)∨ ∃v d,dgetL X k=some d∧valueAt vs k=some v∧Rep h Z v d:=by
 refine RepKV.ind (P:=fun vs X=>(dgetL X k=none∧valueAt vs k=none)∨ ∃v d,dgetL X k=some d∧valueAt vs k=some v∧Rep h Z v d) (.inl ⟨rfl,rfl⟩) ?_ r;intro k' v kvs d X _ _ a _ ih;by_cases q:k'=k
 .exact .inr ⟨v,d,by show(if k'=k then some d else dgetL X k)=some d;exact O (if_pos q) rfl,by unfold valueAt;refine O (List.find?_cons)<|O (decide_eq_true q) ?_;rfl,a⟩
 .have e:dgetL ((.str k',d)::X) k=dgetL X k:=by show(if k'=k then some d else dgetL X k)=_;exact O (if_neg q) rfl
  have e':valueAt ((k',v)::kvs) k=valueAt kvs k:=by unfold valueAt;exact O (List.find?_cons)<|O (decide_eq_false q) rfl
  exact O e<|O e' ih
theorem RepKV.setm{k:Str}{v:Value}{d:D}(rv:Rep h Z v d){vs:List (Str×Value)}{X:aC}(r:RepKV h Z vs X) :RepKV h Z (vs.map fun kv=>if kv.1=k then(kv.1,v) else kv) (dmapL X k d):=by
 refine RepKV.ind (P:=fun vs X=>RepKV h Z (vs.map fun kv=>if kv.1=k then(kv.1,v) else kv)<|dmapL X k d) .nil ?_ r;intro k' v' kvs d' X o l a _ ih;refine O List.map_cons ?_;show RepKV h Z _ ((.str k',if k'=k then d else d')::dmapL X k d)
 by_cases q:k'=k
 .exact O (if_pos q) (O (if_pos q)<|.cons o l rv ih)
 .exact O (if_neg q) (O (if_neg q)<|.cons o l a ih)
theorem RepKV.has{vs:List (Str×Value)}{X:aC}{k:Str}(r:RepKV h Z vs X) :(vs.any fun kv=>decide<|kv.1=k)=(dgetL X k).isSome:=by
 refine RepKV.ind (P:=fun vs X=>(vs.any fun kv=>decide<|kv.1=k)=(dgetL X k).isSome) rfl ?_ r;intro k' v kvs d X _ _ a _ ih;refine O List.any_cons ?_;show _=(if k'=k then some d else dgetL X k).isSome
 by_cases q:k'=k
 .refine O (if_pos q) (O (decide_eq_true q) ?_);rfl
 .refine O (if_neg q) ?_;refine O (decide_eq_false q) ?_;rw[Bool.false_or];exact ih
theorem RepKV.app{k:Str}{v:Value}{d:D}(o:PyData.strOk k=true)(l:k.cps.size≤Sz)(rv:Rep h Z v d){vs:List (Str×Value)}{X:aC}(r:RepKV h Z vs X) :RepKV h Z (vs++[(k,v)]) (X++[(.str k,d)]):=
 RepKV.ind (P:=fun vs X=>RepKV h Z (vs++[(k,v)])<|X++[(PyData.str k,d)]) (.cons o l rv .nil) (fun o' l' a j0_ e=>.cons o' l' a e) r
theorem RepKV.set{k:Str}{v:Value}{d:D}{vs:List (Str×Value)}{X:aC}(r:RepKV h Z vs X)(o:PyData.strOk k=true)(l:k.cps.size≤Sz)(rv:Rep h Z v d) :RepKV h Z (stored vs k v) (dsetL X k d):=by
 unfold stored dsetL;refine O r.has ?_;split
 .exact r.setm rv
 .exact r.app o l rv
theorem dmapL_len(k:Str)(d:D) :∀X:aC,(dmapL X k d).length=X.length:=by intro r;induction r with
 | nil=>exact rfl
 | cons p0 r ih=>obtain⟨x,y⟩:=p0;cases x <;> exact congrArg (· + 1)<|ih
theorem dsetL_len(k:Str)(d:D)(X:aC) :(dsetL X k d).length≤X.length+1:=by
 unfold dsetL;split
 .rw[dmapL_len];exact(Ln [X.length] (.w .x<|.p 1 .x) [] rfl)
 .simp
theorem reps_reads:(∀{v:Value}{d:D},Rep h Z v d→noDict d=true→ ∃as,Reads h v d as)∧(∀{vs:ay}{X:aB},RepAll h Z vs X→noDicts X=true→ ∃as,ReadsAll h vs X as)∧ ∀{vs:List (Str×Value)}{X:aC},RepKV h Z vs X→True:=by
 refine rep_ind (fun j0_=>⟨_,.none⟩) (fun b j0_=>⟨_,.bool b⟩) (fun i t j0_=>⟨_,.int i t⟩) (fun x t j0_ j1_ j2_=>⟨_,.str x t⟩) (fun j0_ g j1_ r e=>?_) (fun j0_ g j1_ r e=>?_) (fun j0_ j1_ j2_ j3_ e=>nomatch e) (fun j0_=>⟨_,.nil⟩) (fun a r e=>?_) trivial fun j0_ j1_ j2_ j3_=>trivial
 .obtain⟨_,q⟩:=r e;exact⟨_,.list g rfl rfl q⟩
 .obtain⟨_,q⟩:=r e;exact⟨_,.tuple g rfl rfl q⟩
 .have Q:=Bool.and_eq_true_iff.mp e;obtain⟨_,p⟩:=a Q.1;exact ex1 (r Q.2) fun j0_ q=>(⟨_,.cons p q⟩)
theorem Rep.reads{v:Value}{d:D}(r:Rep h Z v d)(e:noDict d=true) :∃as,Reads h v d as:=reps_reads.1 r e
theorem RepAll.reads{vs:ay}{X:aB}(r:RepAll h Z vs X)(e:noDicts X=true) :∃as,ReadsAll h vs X as:=reps_reads.2.1 r e
theorem reps_canLay:(∀{v:Value}{d:D},Rep h Z v d→noDict d=true→d.canLay0=true)∧(∀{vs:ay}{X:aB},RepAll h Z vs X→noDicts X=true→PyData.canLayAll0 X=true)∧ ∀{vs:List (Str×Value)}{X:aC},RepKV h Z vs X→True:=by refine rep_ind (fun j0_=>rfl) (fun b j0_=>rfl) (fun i t j0_=>rfl) (fun x t o j0_ j1_=>o) (fun j0_ g j1_ r e=>r e) (fun j0_ g j1_ r e=>r e) (fun j0_ j1_ j2_ j3_ e=>nomatch e) (fun j0_=>rfl) (fun a r e=>?_) trivial fun j0_ j1_ j2_ j3_=>trivial;exact Bool.and_eq_true_iff.mpr ⟨a (Bool.and_eq_true_iff.mp e).1,r (Bool.and_eq_true_iff.mp e).2⟩
theorem Rep.canLay{v:Value}{d:D}(r:Rep h Z v d)(e:noDict d=true) :d.canLay0=true:=reps_canLay.1 r e
theorem RepAll.canLay{vs:ay}{X:aB}(r:RepAll h Z vs X)(e:noDicts X=true) :PyData.canLayAll0 X=true:=reps_canLay.2.1 r e
theorem RepAll.length{vs:ay}{X:aB}(r:RepAll h Z vs X) :vs.length=X.length:=RepAll.ind (P:=fun vs X=>vs.length=X.length) rfl (fun j0_ j1_ e=>congrArg (· + 1) e) r
theorem RepAll.append{vs ws:ay}{X es:aB}(r:RepAll h Z vs X)(k:RepAll h Z ws es) :RepAll h Z (vs++ws) (X++es):=RepAll.ind (P:=fun vs X=>RepAll h Z (vs++ws)<|X++es) k (fun a j0_ e=>.cons a e) r
theorem RepAll.reverse{vs:ay}{X:aB}(r:RepAll h Z vs X) :RepAll h Z vs.reverse X.reverse:=RepAll.ind (P:=fun vs X=>RepAll h Z vs.reverse X.reverse) .nil (fun a j0_ e=>by refine O List.reverse_cons<|O List.reverse_cons ?_;exact e.append<|.cons a .nil) r
theorem RepAll.drop{vs:ay}{X:aB}(n:Nat)(r:RepAll h Z vs X) :RepAll h Z (vs.drop n) (X.drop n):=
 RepAll.ind (P:=fun vs X=> ∀n,RepAll h Z (vs.drop n)<|X.drop n) (fun n=>by cases n <;> exact .nil) (fun a r e n=>by cases n with | zero=>exact .cons a r | succ n=>exact e n) r n
theorem RepAll.take{vs:ay}{X:aB}(n:Nat)(r:RepAll h Z vs X) :RepAll h Z (vs.take n) (X.take n):=
 RepAll.ind (P:=fun vs X=> ∀n,RepAll h Z (vs.take n)<|X.take n) (fun n=>by cases n <;> exact .nil) (fun a r e n=>by cases n with | zero=>exact .nil | succ n=>exact .cons a<|e n) r n
theorem RepAll.get{vs:ay}{X:aB}{k:Nat}{d:D}(r:RepAll h Z vs X)(q:X[k]?=some d) :∃v,vs[k]?=some v∧Rep h Z v d:=
 RepAll.ind (P:=fun vs X=> ∀(k:Nat)(d:D),X[k]?=some d→ ∃v,vs[k]?=some v∧Rep h Z v d) (fun j0_ j1_ e=>nos e) (fun a r ih k d e=>by cases k with
  | zero=>obtain rfl:=sos e;exact⟨_,rfl,a⟩
  | succ k=>exact ih k d e) r k d q
theorem RepAll.getV{vs:ay}{X:aB}{k:Nat}{v:Value}(r:RepAll h Z vs X)(q:vs[k]?=some v) :∃d,X[k]?=some d∧Rep h Z v d:=
 RepAll.ind (P:=fun vs X=> ∀(k:Nat)(v:Value),vs[k]?=some v→ ∃d,X[k]?=some d∧Rep h Z v d) (fun j0_ j1_ e=>nos e) (fun a r ih k d e=>by cases k with
  | zero=>obtain rfl:=sos e;exact⟨_,rfl,a⟩
  | succ k=>exact ih k d e) r k v q
theorem RepAll.set{vs:ay}{X:aB}(k:Nat){v:Value}{d:D}(r:RepAll h Z vs X)(q:Rep h Z v d) :RepAll h Z (vs.set k v) (X.set k d):=
 RepAll.ind (P:=fun vs X=> ∀k,RepAll h Z (vs.set k v)<|X.set k d) (fun j0_=>.nil) (fun a r e k=>by cases k with | zero=>exact .cons q r | succ k=>exact .cons a<|e k) r k
theorem RepAll.rep{vs:ay}{X:aB}(r:RepAll h Z vs X) :∀n:Nat,RepAll h Z (List.replicate n vs).flatten (List.replicate n X).flatten:=by intro n;induction n with
 | zero=>exact .nil
 | succ n ih=>simpa [List.replicate_succ] using RepAll.append r ih
end
inductive OwnAt(h:Heap)(Z:Addr→Prop)(a:Addr) :D→Prop
 | list {vs:ay} {n:Nat} {X:aB} :IsL h a vs.toArray n→vs.length≤Sz→RepAll h Z vs X→OwnAt h Z a (.list X)
 | dict {kvs:List (Str×Value)} {X:aC} :DictS h a kvs→kvs.length≤Sz→RepKV h Z kvs X→OwnAt h Z a (.dict X)
theorem OwnAt.mono{h h':Heap}{Z Z':Addr→Prop}{a:Addr}{d:D}(hk:∀a o,Z a→h.get? a=some o→h'.get? a=some o)(hz:∀a,Z a→Z' a)(ha:∀o,h.get? a=some o→h'.get? a=some o) :OwnAt h Z a d→OwnAt h' Z' a d
 | .list g l r=>.list (ha _ g) l<|r.mono hk hz
 | .dict g l r=>.dict (g.at' ha) l<|r.mono hk hz
theorem OwnAt.live{h:Heap}{Z:Addr→Prop}{a:Addr}{d:D} :OwnAt h Z a d→ ∃o,h.get? a=some o
 | .list g _ _=>⟨_,g⟩
 | .dict g _ _=>g.live
theorem OwnAt.rep{h:Heap}{Z Z':Addr→Prop}{a:Addr}{d:D}(x:OwnAt h Z a d)(hz:∀a,Z a→Z' a)(ha:Z' a) :Rep h Z' (.ref a) d:=by cases x with
 | list g l r=>exact .list ha g l<|r.mono (fun j0_ j1_ j2_ e=>e) hz
 | dict g l r=>exact .dict ha g l<|r.mono (fun j0_ j1_ j2_ e=>e) hz
noncomputable def KT(h:Heap)(Z:Addr→Prop) :List (D×Addr×Value)→aC→Prop
 | [],[]=>True
 | x::M,p::X=>(p.1=x.1∧keyOk x.1=true∧Rep h Z (.ref x.2.1) x.1∧Rep h Z x.2.2 p.2)∧KT h Z M X
 | _,_=>False
theorem keyOk_d{k:D}(h:keyOk k=true) :keyD k=true∧k.depth≤8:=by cases k with
 | tuple M=>exact⟨(Bool.and_eq_true_iff.mp h).1,of_decide_eq_true (Bool.and_eq_true_iff.mp h).2⟩
 | _=>exact tf h
theorem Rep.isKey{h:Heap}{Z:Addr→Prop}{a:Addr}{k:D}(o:keyOk k=true)(r:Rep h Z (.ref a) k) :IsKey h k a:=
 ⟨(keyOk_d o).1,r.canLay<|nd_key _ (keyOk_d o).1,(keyOk_d o).2,r.reads<|nd_key _ (keyOk_d o).1⟩
section
variable {h h':Heap}{Z Z':Addr→Prop}
theorem KT.mono(hk:∀a o,Z a→h.get? a=some o→h'.get? a=some o)(hz:∀a,Z a→Z' a) :∀{M:List (D×Addr×Value)}{X:aC},KT h Z M X→KT h' Z' M X:=by intro M;induction M with
 | nil=>intro X r;cases X with | nil=>trivial | cons=>exact r.elim
 | cons x M ih=>intro X r;cases X with
  | nil=>exact r.elim
  | cons p X=>exact⟨⟨r.1.1,r.1.2.1,r.1.2.2.1.mono hk hz,r.1.2.2.2.mono hk hz⟩,ih r.2⟩
theorem KT.key:∀{M:List (D×Addr×Value)}{X:aC},KT h Z M X→ ∀x∈M,IsKey h x.1 x.2.1:=by intro M;induction M with
 | nil=>exact fun j0_ j1_ m=>nomatch m
 | cons x M ih=>intro X r y m;cases X with
  | nil=>exact r.elim
  | cons p X=>exact(List.mem_cons.mp m).elim (fun e=>e▸r.1.2.2.1.isKey r.1.2.1)<|ih r.2 y
theorem KT.app{k:D}{a:Addr}{v:Value}{d:D}(o:keyOk k=true)(rk:Rep h Z (.ref a) k)(rv:Rep h Z v d) :∀{M:List (D×Addr×Value)}{X:aC},KT h Z M X→KT h Z (M++[(k,a,v)]) (X++[(k,d)]):=by intro M;induction M with
 | nil=>intro X r;cases X with | nil=>exact⟨⟨rfl,o,rk,rv⟩,trivial⟩ | cons=>exact r.elim
 | cons x M ih=>intro X r;cases X with
  | nil=>exact r.elim
  | cons p X=>exact⟨r.1,ih r.2⟩
theorem KT.len:∀{M:List (D×Addr×Value)}{X:aC},KT h Z M X→M.length=X.length:=by intro M;induction M with
 | nil=>intro X r;cases X with | nil=>rfl | cons=>exact r.elim
 | cons x M ih=>intro X r;cases X with
  | nil=>exact r.elim
  | cons p X=>exact congrArg (· + 1)<|ih r.2
open Classical in
inductive KTGet(h:Heap)(Z:Addr→Prop)(k:D)(M:List (D×Addr×Value))(X:aC) :Prop
 | no:tabGet k X=none→atKey M k=none→KTGet h Z k M X
 | yes (p:Addr×Value) (d:D) :tabGet k X=some d→atKey M k=some p→Rep h Z p.2 d→KTGet h Z k M X
open Classical in
theorem KT.get{k:D}(o:keyOk k=true) :∀{M:List (D×Addr×Value)}{X:aC},KT h Z M X→KTGet h Z k M X:=by intro M;induction M with
 | nil=>intro X r;cases X with | nil=>exact .no rfl rfl | cons=>exact r.elim
 | cons x M ih=>intro X r;cases X with
  | nil=>exact r.elim
  | cons p X=>
   have e:tabGet k (p::X)=if PyData.eqv p.1 k=true then some p.2 else tabGet k X:=rfl
   have e':∀b,decide (x.1=k)=b→atKey (x::M) k=cnd b (some x.2) (atKey M k):=fun b q=>by unfold atKey;refine O List.find?_cons ?_;rw[q];cases b <;> rfl
   by_cases q:x.1=k
   .refine .yes x.2 p.2 ?_ (e' true<|decide_eq_true q) r.1.2.2.2;rw[e,r.1.1,q,if_pos<|key_refl k (keyOk_d o).1]
   .have f:PyData.eqv p.1 k=false:=by rw[r.1.1];exact key_ne (keyOk_d r.1.2.1).1 (keyOk_d o).1 q
    have e:tabGet k (p::X)=tabGet k X:=by rw[e,f];rfl
    have e':=e' false<|decide_eq_false q;cases ih r.2 with
    | no a b=>exact .no (e.trans a)<|e'.trans b
    | yes u d a b c=>exact .yes u d (e.trans a) (e'.trans b) c
end
open Classical in
inductive TabAt(h:Heap)(Z:Addr→Prop)(a:Addr)(X:aC) :Prop
 | mk (M:List (D×Addr×Value)) :(a==sysModules)=false→h.DictOfH (dataKind prog w) a M→M.length≤Sz→KT h Z M X→TabAt h Z a X
open Classical in
theorem TabAt.mono{h h':Heap}{Z Z':Addr→Prop}{a:Addr}{X:aC}(hk:∀a o,Z a→h.get? a=some o→h'.get? a=some o)(hz:∀a,Z a→Z' a)(ha:∀o,h.get? a=some o→h'.get? a=some o)(t:TabAt h Z a X) :TabAt h' Z' a X:=by obtain⟨M,s,⟨o,es,ep,h1,h2,h3,h4,_,h6⟩,l,r⟩:=t;exact⟨M,s,⟨o,es,ep,ha o h1,h2,h3,h4,(r.mono hk hz).key,h6⟩,l,(r.mono hk hz)⟩
open Classical in
theorem TabAt.live{h:Heap}{Z:Addr→Prop}{a:Addr}{X:aC}(t:TabAt h Z a X) :∃o,h.get? a=some o:=by obtain⟨M,s,⟨o,es,ep,h1,_⟩,_⟩:=t;exact⟨o,h1⟩
end Mv
end
section
set_option backward.match.sparseCases false
namespace Mv
open PySem PyProof.Rows
variable [Hp]
set_option genCtorIdx true in
inductive Loc where | dict(a:Addr)(x:Str) | cell(a:Addr) | attr(a:Addr)(ns:ax)(x:Str)
noncomputable def Loc.addr:Loc→Addr | .dict a _=>a | .cell a=>a | .attr a _ _=>a
noncomputable def rdL(h:Heap) :Loc→Value→Prop
 | .dict a x,v=> ∃m,h.Ns a m∧m x=some v
 | .cell a,v=>h.IsCell a<|some v
 | .attr a ns x,v=> ∃m,(h.Ns1 a m∧Within m ns)∧m x=some v
noncomputable def okL(h:Heap) :Loc→Prop
 | .dict a _=> ∃m,h.Ns a m
 | .cell a=> ∃v,h.IsCell a v
 | .attr a ns _=> ∃m,h.Ns1 a m∧Within m ns
inductive Sep(l k:Loc) :Prop
 | dict (a:Addr) (x z:Str) :l = .dict a x→k = .dict a z→x≠z→Sep l k
 | attr (a:Addr) (ns:ax) (x z:Str) :l = .attr a ns x→k = .attr a ns z→x≠z→Sep l k
theorem Sep.dict'{k:Loc}{a:Addr}{x:Str}(h:Sep k (.dict a x)) :∃x',k = .dict a x'∧x'≠x:=by cases h with
 | dict b x' z e1 e2 n=>cases e2;exact⟨x',e1,n⟩
 | attr b ns x' z e1 e2 n=>exact nomatch e2
theorem Sep.noCell{k:Loc}{a:Addr}{p:Prop}(h:Sep k (.cell a)) :p:=by cases h with
 | dict b x' z e1 e2 n=>exact nomatch e2
 | attr b ns x' z e1 e2 n=>exact nomatch e2
theorem Sep.attr'{k:Loc}{a:Addr}{ns:ax}{x:Str}(h:Sep k (.attr a ns x)) :∃x',k = .attr a ns x'∧x'≠x:=by cases h with
 | dict b x' z e1 e2 n=>exact nomatch e2
 | attr b ns x' z e1 e2 n=>cases e2;exact⟨x',e1,n⟩
structure Lay where
 loc:Nat→Option Loc
 L:Addr
 F:Addr→Prop
 si:Nat
 slf:Option (Addr×Obj)
structure Lay.Wf(y:Lay) :Prop where
 apart:∀i j l k,y.loc i=some l→y.loc j=some k→i≠j→l.addr=k.addr→Sep l k
 nf:∀i l,y.loc i=some l→ ¬y.F l.addr
 nL:¬y.F y.L
 cl:∀i a,y.loc i=some (.cell a)→a≠y.L
 al:∀i a ns x,y.loc i=some (.attr a ns x)→a≠y.L
noncomputable def SlotV(h:Heap)(Z af:Addr→Prop) :Slot→Value→Prop
 | .no,_=>True
 | .fz d,v=>Rep h Z v d
 | .ai d,v=> ∃a,v = .ref a∧af a∧OwnAt h Z a d
 | .tab X,v=> ∃a,v = .ref a∧af a∧TabAt h Z a X
noncomputable def NR(o:Obj) :Prop:= ∀vs,o.data≠ .fields vs
noncomputable def Lay.wr(y:Lay)(ai:Addr→Option Nat)(a:Addr) :Prop:=ai a≠none∨a=y.L∨ ∃i l,y.loc i=some l∧l.addr=a
structure SelfAt(y:Lay)(Z:Addr→Prop)(h:Heap)(p:Addr×Obj) :Prop where
 z:Z p.1
 ob:h.get? p.1=some p.2
 rd:∃l,y.loc y.si=some l∧rdL h l (.ref p.1)
theorem SelfAt.mono{y:Lay}{Z Z':Addr→Prop}{h h':Heap}{p:Addr×Obj}(x:SelfAt y Z h p)(kz:∀a o,Z a→h.get? a=some o→h'.get? a=some o)(hz:∀a,Z a→Z' a)(kr:∀l v,y.loc y.si=some l→rdL h l v→rdL h' l v) :SelfAt y Z' h' p:=
 ⟨hz _ x.z,kz _ _ x.z x.ob,let ⟨l,hl,r⟩:=x.rd;⟨l,hl,kr l _ hl r⟩⟩
inductive SlotAt(y:Lay)(h:Heap)(Z Ow:Addr→Prop)(i:Nat)(sl:Slot) :Prop
 | mk (l:Loc) (v:Value) :y.loc i=some l→rdL h l v→SlotV h Z Ow sl v→SlotAt y h Z Ow i sl
structure Inv(y:Lay)(ai:Addr→Option Nat)(Z:Addr→Prop)(h:Heap)(Y:Fm) :Prop where
 wf:y.Wf
 base:∀a o,B.get? a=some o→h.get? a=some o
 zb:∀a o,B.get? a=some o→Z a
 zo:∀a,Z a→ai a=none
 zl:∀i l,y.loc i=some l→ ¬Z l.addr
 ol:∀i l,y.loc i=some l→ai l.addr=none
 zL:¬Z y.L
 oL:ai y.L=none
 zF:∀a,Z a→ ¬y.F a
 oF:∀a,ai a≠none→ ¬y.F a
 zlv:∀a,Z a→ ∃o,h.get? a=some o
 olv:∀a,ai a≠none→ ∃o,h.get? a=some o
 flv:∀a,y.F a→ ∃o,h.get? a=some o∧NR o
 ok:∀i l,y.loc i=some l→okL h l
 nsL:∃m,h.Ns y.L m
 sf:∀p,y.slf=some p→SelfAt y Z h p
 at':∀i sl,Y[i]?=some sl→sl≠ .no→SlotAt y h Z (fun a=>ai a=some i) i sl
structure Ext(W F:Addr→Prop)(h h':Heap) :Prop where
 keep:∀a o,h.get? a=some o→ ¬W a→ ¬F a→h'.get? a=some o
 live:∀a o,h.get? a=some o→ ∃o',h'.get? a=some o'
 fram:∀a o,F a→h.get? a=some o→ ∃sl,h'.get? a=some {o with slots:=sl}
structure Step(y:Lay)(bv:aw)(ai:Addr→Option Nat)(Z:Addr→Prop)(s:Shared)(own':Addr→Option Nat)(Z':Addr→Prop)(s':Shared) :Prop where
 sh:∃h' tk,s'={s with heap:=h',toks:=tk}
 ext:Ext (y.wr ai) y.F s.heap s'.heap
 zm:∀a,Z a→Z' a
 zn:∀a,Z' a→Z a∨ai a≠none∨s.heap.get? a=none
 on:∀a i,own' a=some i→ai a=some i∨s.heap.get? a=none
 bind:∀i l v,i∉bv→y.loc i=some l→rdL s.heap l v→rdL s'.heap l v
section
variable {y:Lay}{bv bv':aw}{ai own' own'':Addr→Option Nat}{Z Z' Z'':Addr→Prop}{s s' s'':Shared}{h h':Heap}{Y fr':Fm}
theorem Ext.refl(W F:Addr→Prop)(h:Heap) :Ext W F h h:=⟨fun j0_ j1_ e j2_ j3_=>e,fun j0_ o e=>⟨o,e⟩,fun j0_ o j1_ e=>⟨o.slots,e⟩⟩
theorem Ext.trans{W W' F:Addr→Prop}{h h' h'':Heap}(x:Ext W F h h')(z:Ext W' F h' h'')(hw:∀a,W' a→W a∨h.get? a=none) :Ext W F h h'' where
 keep:=fun a o e hw' hf=>z.keep a o (x.keep a o e hw' hf) (fun q=>(hw a q).elim hw' fun n=>by rw[n]at e;exact nos e) hf
 live:=fun a o e=>let ⟨o',e'⟩:=x.live a o e;z.live a o' e'
 fram:=fun a o f e=>let ⟨sl,e'⟩:=x.fram a o f e;let ⟨sl',e''⟩:=z.fram a _ f e';⟨sl',e''⟩
theorem Step.refl:Step y bv ai Z s ai Z s:=⟨⟨_,_,rfl⟩,.refl _ _ _,fun j0_ z=>z,fun j0_ z=>.inl z,fun j0_ j1_ e=>.inl e,fun j0_ j1_ j2_ j3_ j4_ r=>r⟩
theorem wr_mono(x:∀a i,own' a=some i→ai a=some i∨h.get? a=none)(a:Addr)(w:y.wr own' a) :y.wr ai a∨h.get? a=none:=by
 rcases w with w | w
 .cases e:own' a with
  | none=>exact absurd e w
  | some i=>exact(x a i e).imp (fun q=>.inl (by refine O q ?_;exact fun n=>by exact nomatch n)) id
 .exact .inl (.inr w)
theorem Step.trans(x:Step y bv ai Z s own' Z' s')(z:Step y bv own' Z' s' own'' Z'' s'') :Step y bv ai Z s own'' Z'' s'' where
 sh:=by refine ex2 x.sh fun h' tk Q=>?_;subst Q;refine ex2 z.sh fun h'' tk' u=>?_;subst u;exact⟨_,_,rfl⟩
 ext:=x.ext.trans z.ext<|wr_mono x.on
 zm:=fun a q=>z.zm a<|x.zm a q
 zn:=fun a q=>by
  rcases z.zn a q with q | q | q
  .exact x.zn a q
  .cases e:own' a with
   | none=>exact absurd e q
   | some i=>exact(x.on a i e).elim (fun w=>.inr<|.inl (by refine O w ?_;exact fun n=>by exact nomatch n)) fun w=>.inr<|.inr w
  .cases e:s.heap.get? a with
   | none=>exact .inr<|.inr rfl
   | some o=>obtain⟨o',e'⟩:=x.ext.live a o e;rw[q]at e';exact nos e'
 on:=fun a i q=>by
  rcases z.on a i q with q | q
  .exact x.on a i q
  .cases e:s.heap.get? a with
   | none=>exact .inr rfl
   | some o=>obtain⟨o',e'⟩:=x.ext.live a o e;rw[q]at e';exact nos e'
 bind:=fun i l v hb hl r=>z.bind i l v hb hl<|x.bind i l v hb hl r
theorem Step.sub(x:Step y bv ai Z s own' Z' s')(hb:∀i,i∈bv→i∈bv') :Step y bv' ai Z s own' Z' s':= {x with bind:=fun i l v n hl r=>x.bind i l v (fun q=>n<|hb i q) hl r}
theorem Inv.nwr(I:Inv y ai Z h Y){a:Addr}(z:Z a) :¬y.wr ai a:=by
 rintro (w | w | ⟨i,l,hl,rfl⟩)
 .exact w (I.zo a z)
 .exact I.zL (w▸z)
 .exact I.zl i l hl z
theorem Inv.keepZ(I:Inv y ai Z s.heap Y)(x:Ext (y.wr ai) y.F s.heap h')(a:Addr)(o:Obj)(z:Z a)(e:s.heap.get? a=some o) :h'.get? a=some o:=x.keep a o e (I.nwr z)<|I.zF a z
theorem Step.rep(x:Step y bv ai Z s own' Z' s')(I:Inv y ai Z s.heap Y){v:Value}{d:D}(r:Rep s.heap Z v d) :Rep s'.heap Z' v d:=r.mono (I.keepZ x.ext) x.zm
theorem Step.repAll(x:Step y bv ai Z s own' Z' s')(I:Inv y ai Z s.heap Y){vs:ay}{X:aB}(r:RepAll s.heap Z vs X) :RepAll s'.heap Z' vs X:=r.mono (I.keepZ x.ext) x.zm
noncomputable def RvAt(y:Lay)(ai:Addr→Option Nat)(Z:Addr→Prop)(h₀ h:Heap) :Rv→Value→Prop
 | .fz d,v=>Rep h Z v d
 | .ai d,v=> ∃a,v = .ref a∧h₀.get? a=none∧ ¬y.wr ai a∧ ¬y.F a∧ ¬Z a∧OwnAt h Z a d
 | .pl (.var i),v=> ∃l,y.loc i=some l∧rdL h l v
noncomputable def plVars:Rv→aw
 | .pl (.var i)=>[i]
 | _=>[]
theorem Step.rv{h₀:Heap}(x:Step y bv ai Z s own' Z' s')(I:Inv y ai Z s.heap Y){v:Value}{r:Rv}(hb:∀i∈plVars r,i∉bv)(q:RvAt y ai Z h₀ s.heap r v) :RvAt y own' Z' h₀ s'.heap r v:=by cases r with
 | fz d=>exact x.rep I q
 | ai d=>
  obtain⟨a,q⟩:=q;refine O q.1 ?_;obtain⟨o,ho⟩:=q.2.2.2.2.2.live;refine⟨a,rfl,q.2.1,fun w=>?_,q.2.2.2.1,fun z=>?_,q.2.2.2.2.2.mono (I.keepZ x.ext) x.zm fun o e=>x.ext.keep a o e q.2.2.1 q.2.2.2.1⟩
  .rcases wr_mono x.on a w with w | w
   .exact q.2.2.1 w
   .rw[w]at ho;exact nos ho
  .rcases x.zn a z with z | z | z
   .exact q.2.2.2.2.1 z
   .exact q.2.2.1 (.inl z)
   .rw[z]at ho;exact nos ho
 | pl p=>cases p with
  | var i=>obtain⟨l,q⟩:=q;exact⟨l,q.1,x.bind i l v (hb i (by simp[plVars])) q.1 q.2⟩
theorem RvAt.since{h₀ h₁ h:Heap}(k:∀a,h₁.get? a=none→h₀.get? a=none){v:Value}{r:Rv}(q:RvAt y ai Z h₁ h r v) :RvAt y ai Z h₀ h r v:=by cases r with
 | fz d=>exact q
 | ai d=>exact ex1 q fun a q=>(⟨a,q.1,k a q.2.1,q.2.2⟩)
 | pl p=>cases p <;> exact q
theorem Step.old(x:Step y bv ai Z s own' Z' s')(a:Addr)(e:s'.heap.get? a=none) :s.heap.get? a=none:=by cases q:s.heap.get? a with
 | none=>rfl
 | some o=>refine ex1 (x.ext.live a o q) fun o' e'=>?_;rw[e]at e';exact nos e'
theorem Step.addZ(x:Step y bv ai Z s own' Z' s'){a:Addr}(e:s.heap.get? a=none) :Step y bv ai Z s own' (fun b=>Z' b∨b=a) s':=
 {x with
  zm:=fun b z=>.inl<|x.zm b z
  zn:=fun b z=>z.elim (x.zn b) fun q=>.inr (.inr<|q▸e)}
end
section
variable {y:Lay}{bv bv':aw}{ai own' own'':Addr→Option Nat}{Z Z' Z'':Addr→Prop}{s s' s'':Shared}{h h':Heap}{Y fr':Fm}
theorem SlotV.mono{af O':Addr→Prop}{sl:Slot}{v:Value}(hk:∀a o,Z a→h.get? a=some o→h'.get? a=some o)(hz:∀a,Z a→Z' a)(ho:∀a,af a→O' a)(hko:∀a o,af a→h.get? a=some o→h'.get? a=some o)
  (x:SlotV h Z af sl v) :SlotV h' Z' O' sl v:=by
 cases sl with
 | no=>trivial
 | fz d=>exact Rep.mono hk hz x
 | ai d=>obtain⟨a,rfl,oa,w⟩:=x;exact⟨a,rfl,ho a oa,w.mono hk hz fun o e=>hko a o oa e⟩
 | tab d=>obtain⟨a,rfl,oa,w⟩:=x;exact⟨a,rfl,ho a oa,w.mono hk hz fun o e=>hko a o oa e⟩
theorem rdL.keeps{l:Loc}{v:Value}(k:∀o,h.get? l.addr=some o→h'.get? l.addr=some o)(x:rdL h l v) :rdL h' l v:=by cases l with
 | dict a z=>refine ex1 x fun m x=>?_;have hn:=x.1;have e:=x.2;exact⟨m,hn.at' k,e⟩
 | cell a=>exact ex1 x fun o x=>(⟨o,k _ x.1,x.2⟩)
 | attr a ns z=>obtain⟨m,⟨⟨o,es,ep,e1,r⟩,w⟩,e⟩:=x;exact⟨m,⟨⟨o,es,ep,k o e1,r⟩,w⟩,e⟩
theorem okL.keeps{l:Loc}(k:∀o,h.get? l.addr=some o→h'.get? l.addr=some o)(x:okL h l) :okL h' l:=by cases l with
 | dict a z=>exact ex1 x fun m hn=>(⟨m,hn.at' k⟩)
 | cell a=>exact ex2 x fun v o x=>(⟨v,o,k _ x.1,x.2⟩)
 | attr a ns z=>obtain⟨m,⟨o,es,ep,e1,r⟩,w⟩:=x;exact⟨m,⟨o,es,ep,k o e1,r⟩,w⟩
theorem okL.live{l:Loc}(x:okL h l) :∃o,h.get? l.addr=some o:=by cases l with
 | dict a z=>refine ex4 x fun m o j0_ j1_ x=>?_;have ho:=x.1;exact⟨o,ho⟩
 | cell a=>refine ex2 x fun v o x=>?_;have ho:=x.1;have hd:=x.2;exact⟨o,ho⟩
 | attr a ns z=>obtain⟨m,⟨o,_,_,ho,_⟩,_⟩:=x;exact⟨o,ho⟩
theorem Inv.grow(I:Inv y ai Z h Y)(k:∀b o,h.get? b=some o→h'.get? b=some o) :Inv y ai Z h' Y where
 wf:=I.wf
 base:=fun a o e=>k a o<|I.base a o e
 zb:=I.zb
 zo:=I.zo
 zl:=I.zl
 ol:=I.ol
 zL:=I.zL
 oL:=I.oL
 zF:=I.zF
 oF:=I.oF
 zlv:=fun a z=>let ⟨o,e⟩:=I.zlv a z;⟨o,k a o e⟩
 olv:=fun a z=>let ⟨o,e⟩:=I.olv a z;⟨o,k a o e⟩
 flv:=fun a z=>let ⟨o,e,q⟩:=I.flv a z;⟨o,k a o e,q⟩
 ok:=fun i l e=>(I.ok i l e).keeps fun o=>k _ o
 nsL:=let ⟨m,hn⟩:=I.nsL;⟨m,hn.keeps k⟩
 sf:=fun p e=>(I.sf p e).mono (fun a o j0_=>k a o) (fun j0_ z=>z) fun l v j0_ r=>r.keeps fun o=>k _ o
 at':=fun i sl e n=>let ⟨l,v,hl,r,q⟩:=I.at' i sl e n;⟨l,v,hl,r.keeps fun o=>k _ o,q.mono (fun a o j0_=>k a o) (fun j0_ z=>z) (fun j0_ z=>z) fun a o j0_=>k a o⟩
theorem Step.grow{tk:Nat}(k:∀b o,s.heap.get? b=some o→h'.get? b=some o) :Step y bv ai Z s ai Z {s with heap:=h',toks:=tk} where
 sh:=⟨_,_,rfl⟩
 ext:=⟨fun a o e j0_ j1_=>k a o e,fun a o e=>⟨o,k a o e⟩,fun a o j0_ e=>⟨o.slots,k a o e⟩⟩
 zm:=fun j0_ z=>z
 zn:=fun j0_ z=>.inl z
 on:=fun j0_ j1_ e=>.inl e
 bind:=fun i l v j0_ j1_ r=>r.keeps fun o=>k _ o
theorem Inv.addP(I:Inv y ai Z h Y){P:Addr→Prop}(np:∀b,P b→ ¬y.wr ai b∧ ¬y.F b∧ ∃o,h.get? b=some o) :Inv y ai (fun b=>Z b∨P b) h Y where
 wf:=I.wf
 base:=I.base
 zb:=fun a o e=>.inl<|I.zb a o e
 zo:=fun b z=>z.elim (I.zo b) fun q=>by cases w:ai b with
  | none=>rfl
  | some i=>exact absurd (.inl (by refine O w ?_;exact fun n=>by exact nomatch n)) (np b q).1
 zl:=fun i l e z=>z.elim (I.zl i l e) fun q=>(np _ q).1<|.inr<|.inr ⟨i,l,e,rfl⟩
 ol:=I.ol
 zL:=fun z=>z.elim I.zL fun q=>(np _ q).1<|.inr<|.inl rfl
 oL:=I.oL
 zF:=fun b z=>z.elim (I.zF b) fun q=>(np b q).2.1
 oF:=I.oF
 zlv:=fun b z=>z.elim (I.zlv b) fun q=>(np b q).2.2
 olv:=I.olv
 flv:=I.flv
 ok:=I.ok
 nsL:=I.nsL
 sf:=fun p e=>(I.sf p e).mono (fun j0_ j1_ j2_ e=>e) (fun j0_ z=>.inl z) fun j0_ j1_ j2_ r=>r
 at':=fun i sl e n=>let ⟨l,v,hl,r,q⟩:=I.at' i sl e n;⟨l,v,hl,r,q.mono (fun j0_ j1_ j2_ e=>e) (fun j0_ z=>.inl z) (fun j0_ z=>z) fun j0_ j1_ j2_ e=>e⟩
theorem Inv.addZ(I:Inv y ai Z h Y){a:Addr}{o:Obj}(nw:¬y.wr ai a)(nf:¬y.F a)(e:h.get? a=some o) :Inv y ai (fun b=>Z b∨b=a) h Y:=
 I.addP (P:=fun b=>b=a) fun b q=>O (ah:=fun b=> ¬y.wr ai b∧ ¬y.F b∧ ∃o,h.get? b=some o) q ⟨nw,nf,o,e⟩
theorem Inv.fresh(I:Inv y ai Z h Y){a:Addr}(e:h.get? a=none) :¬y.wr ai a∧ ¬y.F a∧ ¬Z a:=by
 refine⟨?_,fun f=>?_,fun z=>?_⟩
 .rintro (w | w | ⟨i,l,hl,rfl⟩)
  .obtain⟨o,q⟩:=I.olv a w;rw[e]at q;exact nos q
  .refine ex4 I.nsL fun m o j0_ j1_ Q=>?_;have q:=Q.1;rw[← w,e]at q;exact nos q
  .obtain⟨o,q⟩:=(I.ok i l hl).live;rw[e]at q;exact nos q
 .obtain⟨o,u⟩:=I.flv a f;have q:=u.1;rw[e]at q;exact nos q
 .obtain⟨o,q⟩:=I.zlv a z;rw[e]at q;exact nos q
theorem Step.growZ{tk:Nat}{a:Addr}(k:∀b o,s.heap.get? b=some o→h'.get? b=some o)(e:s.heap.get? a=none) :Step y bv ai Z s ai (fun b=>Z b∨b=a) {s with heap:=h',toks:=tk} where
 sh:=⟨_,_,rfl⟩
 ext:=⟨fun a o e j0_ j1_=>k a o e,fun a o e=>⟨o,k a o e⟩,fun a o j0_ e=>⟨o.slots,k a o e⟩⟩
 zm:=fun j0_ z=>.inl z
 zn:=fun b z=>z.elim .inl fun q=>.inr<|.inr<|q▸e
 on:=fun j0_ j1_ e=>.inl e
 bind:=fun i l v j0_ j1_ r=>r.keeps fun o=>k _ o
theorem Inv.growZ(I:Inv y ai Z h Y){a:Addr}{o:Obj}(k:∀b o,h.get? b=some o→h'.get? b=some o)(e:h.get? a=none)(e':h'.get? a=some o) :Inv y ai (fun b=>Z b∨b=a) h' Y:=
 (I.grow k).addZ (I.fresh e).1 (I.fresh e).2.1 e'
end
section
variable {y:Lay}{bv bv':aw}{ai own' own'':Addr→Option Nat}{Z Z' Z'':Addr→Prop}{s s' s'':Shared}{h h':Heap}{Y fr':Fm}
set_option tactic.hygienic true in
theorem set_get{Y:Fm}{i j:Nat}{sl sl':Slot}(e:(Y.set i sl)[j]?=some sl') :(j=i∧sl'=sl)∨(j≠i∧Y[j]?=some sl'):=by
 rw[List.getElem?_set]at e;split at e
 .rename_i q;split at e
  .exact .inl ⟨q.symm,(Option.some.inj e).symm⟩
  .exact nos e
 .rename_i q;exact .inr ⟨fun w=>q w.symm,e⟩
theorem Inv.forget(I:Inv y ai Z h Y)(i:Nat) :Inv y ai Z h (Y.set i .no):=
 {I with
  at':=by
   intro j sl e n;rcases set_get e with⟨rfl,rfl⟩ | ⟨_,e⟩
   .exact absurd rfl n
   .exact I.at' j sl e n}
theorem Inv.clr(I:Inv y ai Z h Y) :∀l:aw,Inv y ai Z h (clr Y l):=by intro l;induction l generalizing Y with
 | nil=>exact I
 | cons i l ih=>exact ih<|I.forget i
noncomputable def dropO(ai:Addr→Option Nat)(a:Addr) :Addr→Option Nat:=fun b=>if b=a then none else ai b
noncomputable def addO(ai:Addr→Option Nat)(a:Addr)(i:Nat) :Addr→Option Nat:=fun b=>if b=a then some i else ai b
set_option tactic.hygienic true in
theorem dropO_some{a b:Addr}{j:Nat}(e:dropO ai a b=some j) :ai b=some j∧b≠a:=by
 unfold dropO at e;split at e
 .exact nos e
 .rename_i q;exact⟨e,q⟩
set_option tactic.hygienic true in
theorem dropO_ne{a b:Addr}(e:dropO ai a b≠none) :ai b≠none∧b≠a:=by
 unfold dropO at e;split at e
 .exact absurd rfl e
 .rename_i q;exact⟨e,q⟩
inductive FrzAt(y:Lay)(ai:Addr→Option Nat)(Z:Addr→Prop)(h:Heap)(Y:Fm)(i:Nat)(d:D) :Prop
 | mk (l:Loc) (a:Addr) :y.loc i=some l→rdL h l (.ref a)→ai a=some i→Rep h (fun b=>Z b∨b=a) (.ref a) d→Inv y (dropO ai a) (fun b=>Z b∨b=a) h (Y.set i<|.fz d)→FrzAt y ai Z h Y i d
set_option tactic.hygienic true in
theorem Inv.freeze(I:Inv y ai Z h Y){i:Nat}{d:D}(hs:Y[i]?=some (.ai d)) :
  FrzAt y ai Z h Y i d:=by
 obtain⟨l,v,hl,hr,a,rfl,oa,w⟩:=I.at' i _ hs (by intro n;exact Slot.noConfusion n);have on:ai a≠none:=by exact O oa (fun n=>by cases n)
 refine ex1 w.live fun o ho=>?_;have R:Rep h (fun b=>Z b∨b=a) (.ref a) d:=w.rep (fun j0_ z=>.inl z)<|.inr rfl;refine⟨l,a,hl,hr,oa,R,⟨I.wf,I.base,fun b o e=>.inl<|I.zb b o e,fun b z=>?_,fun j k e z=>?_,fun j k e=>?_,fun z=>?_,?_,fun b z=>?_,fun b z=>I.oF b (dropO_ne z).1,fun b z=>z.elim (I.zlv b) fun q=>⟨o,q▸ho⟩,fun b z=>I.olv b (dropO_ne z).1,I.flv,I.ok,I.nsL,fun p e=>(I.sf p e).mono (fun j0_ j1_ j2_ e=>e) (fun j0_ z=>.inl z) fun j0_ j1_ j2_ r=>r,fun j sl e n=>?_⟩⟩
 .unfold dropO;split
  .rfl
  .exact z.elim (I.zo b) fun q=>absurd q ‹_›
 .exact z.elim (I.zl j k e) fun q=>by have:=I.ol j k e;rw[q]at this;have this:=oa▸this;exact nomatch this
 .unfold dropO;split
  .rfl
  .exact I.ol j k e
 .exact z.elim I.zL fun q=>by have:=I.oL;have this:=q▸this;have this:=oa▸this;cases this
 .unfold dropO;split
  .rfl
  .exact I.oL
 .exact z.elim (I.zF b) fun q=>q▸I.oF a on
 .rcases set_get e with⟨rfl,rfl⟩ | ⟨hne,e⟩
  .exact⟨l,.ref a,hl,hr,R⟩
  .obtain⟨k,v,hk,r,q⟩:=I.at' j sl e n;refine⟨k,v,hk,r,q.mono (fun j0_ j1_ j2_ e=>e) (fun j0_ z=>.inl z) (fun b z=>?_) fun j0_ j1_ j2_ e=>e⟩;unfold dropO;split
   .rename_i w';rw[w',oa]at z;exact absurd (Option.some.inj z).symm hne
   .exact z
theorem Step.freeze{a:Addr}{i:Nat}(oa:ai a=some i) :Step y bv ai Z s (dropO ai a) (fun b=>Z b∨b=a) s where
 sh:=⟨_,_,rfl⟩
 ext:=.refl _ _ _
 zm:=fun j0_ z=>.inl z
 zn:=fun b z=>z.elim .inl fun q=>.inr<|.inl (by refine O q<|O oa ?_;exact fun n=>by exact nomatch n)
 on:=fun b j e=>.inl (dropO_some e).1
 bind:=fun j0_ j1_ j2_ j3_ j4_ r=>r
theorem Inv.chg(I:Inv y ai Z h Y){i:Nat}{l:Loc}(hl:y.loc i=some l)(hk:∀a o,a≠l.addr→h.get? a=some o→h'.get? a=some o)
  (ho:∀j k w,j≠i→y.loc j=some k→rdL h k w→rdL h' k w) (hok:∀j k,y.loc j=some k→okL h' k) (hns:∃m,h'.Ns y.L m) (hi:∀p,y.slf=some p→y.si≠i) :Inv y ai Z h' (Y.set i .no):=by
 have kz:∀a o,Z a→h.get? a=some o→h'.get? a=some o:=fun a o z e=>hk a o (fun q=>I.zl i l hl<|q▸z) e;have ko:∀a o,ai a≠none→h.get? a=some o→h'.get? a=some o:=fun a o z e=>hk a o (fun q=>z<|q▸I.ol i l hl) e;refine⟨I.wf,fun a o e=>kz a o (I.zb a o e)<|I.base a o e,I.zb,I.zo,I.zl,I.ol,I.zL,I.oL,I.zF,I.oF,fun a z=>?_,fun a z=>?_,fun a f=>?_,hok,hns,fun p e=>(I.sf p e).mono kz (fun j0_ z=>z) fun l v hl' r=>ho _ l v (hi p e) hl' r,fun j sl e n=>?_⟩
 .obtain⟨o,e⟩:=I.zlv a z;exact⟨o,kz a o z e⟩
 .obtain⟨o,e⟩:=I.olv a z;exact⟨o,ko a o z e⟩
 .obtain⟨o,Q⟩:=I.flv a f;exact⟨o,hk a o (fun q=>I.wf.nf i l hl<|q▸f) Q.1,Q.2⟩
 .rcases set_get e with⟨rfl,rfl⟩ | ⟨hne,e⟩
  .exact absurd rfl n
  .obtain⟨k,w,hk',r,q⟩:=I.at' j sl e n;exact⟨k,w,hk',ho j k w hne hk' r,q.mono kz (fun j0_ z=>z) (fun j0_ z=>z) fun a o z=>ko a o (by refine O z ?_;exact fun n=>by exact nomatch n)⟩
theorem Inv.setSl{i:Nat}{l:Loc}{v:Value}{sl:Slot}(I:Inv y ai Z h' (Y.set i .no))(hl:y.loc i=some l)(hr:rdL h' l v)(R:SlotV h' Z (fun a=>ai a=some i) sl v) :Inv y ai Z h' (Y.set i sl):=by
 refine {I with at':=fun j sl' e n=>?_};rcases set_get e with⟨rfl,rfl⟩ | ⟨hne,e⟩
 .exact⟨l,v,hl,hr,R⟩
 .exact I.at' j sl' (by refine O (List.getElem?_set_ne<|Ne.symm hne) ?_;exact e) n
theorem Inv.setFz(I:Inv y ai Z h Y){i:Nat}{l:Loc}{v:Value}{d:D}(hl:y.loc i=some l)(hk:∀a o,a≠l.addr→h.get? a=some o→h'.get? a=some o)(hlv:∃o,h'.get? l.addr=some o)
  (hr:rdL h' l v) (ho:∀j k w,j≠i→y.loc j=some k→rdL h k w→rdL h' k w) (hok:∀j k,y.loc j=some k→okL h' k) (hns:∃m,h'.Ns y.L m) (hi:∀p,y.slf=some p→y.si≠i) (R:Rep h Z v d) :Inv y ai Z h' (Y.set i<|.fz d):=
 (I.chg hl hk ho hok hns hi).setSl hl hr (show Rep h' Z v d from R.mono (fun a o z e=>hk a o (fun q=>I.zl i l hl<|q▸z) e) fun j0_ z=>z)
theorem addO_self{a:Addr}{i:Nat} :addO ai a i a=some i:=by simp[addO]
theorem addO_ne{a b:Addr}{i:Nat}(q:b≠a) :addO ai a i b=ai b:=by simp[addO,q]
theorem Inv.setOwn(I:Inv y ai Z h Y){i:Nat}{l:Loc}{a:Addr}{sl:Slot}(hl:y.loc i=some l)(hk:∀a o,a≠l.addr→h.get? a=some o→h'.get? a=some o)
  (hr:rdL h' l (.ref a)) (ho:∀j k w,j≠i→y.loc j=some k→rdL h k w→rdL h' k w) (hok:∀j k,y.loc j=some k→okL h' k) (hns:∃m,h'.Ns y.L m) (hi:∀p,y.slf=some p→y.si≠i)
  (nw:¬y.wr ai a) (nf:¬y.F a) (nz:¬Z a) (lv:∃o,h.get? a=some o) (w:SlotV h Z (fun b=>b=a) sl (.ref a)) :Inv y (addO ai a i) Z h' (Y.set i sl):=by
 have kz:∀a o,Z a→h.get? a=some o→h'.get? a=some o:=fun a o z e=>hk a o (fun q=>I.zl i l hl<|q▸z) e;have ko:∀a o,ai a≠none→h.get? a=some o→h'.get? a=some o:=fun a o z e=>hk a o (fun q=>z<|q▸I.ol i l hl) e;have ka:∀o,h.get? a=some o→h'.get? a=some o:=fun o e=>hk a o (fun q=>nw<|.inr<|.inr ⟨i,l,hl,q.symm⟩) e;have na:ai a=none:=by cases e:ai a with
  | none=>rfl
  | some j=>exact absurd (.inl (by refine O e ?_;exact fun n=>by exact nomatch n)) nw
 have nl:∀j k,y.loc j=some k→k.addr≠a:=fun j k e q=>nw<|.inr<|.inr ⟨j,k,e,q⟩;obtain⟨oa,hoa⟩:=lv;refine⟨I.wf,fun a o e=>kz a o (I.zb a o e)<|I.base a o e,I.zb,fun b z=>?_,I.zl,fun j k e=>?_,I.zL,?_,I.zF,fun b z=>?_,fun b z=>?_,fun b z=>?_,fun b f=>?_,hok,hns,fun p e=>(I.sf p e).mono kz (fun j0_ z=>z) fun l v hl' r=>ho _ l v (hi p e) hl' r,fun j sl e n=>?_⟩
 .have q:b≠a:=fun q=>nz<|q▸z;exact O (addO_ne q)<|I.zo b z
 .exact O (addO_ne<|nl j k e) (I.ol j k e)
 .have q:y.L≠a:=fun q=>nw<|.inr<|.inl q.symm;exact O (addO_ne q) I.oL
 .by_cases q:b=a
  .exact q▸nf
  .rw[addO_ne q]at z;exact I.oF b z
 .obtain⟨o,e⟩:=I.zlv b z;exact⟨o,kz b o z e⟩
 .by_cases q:b=a
  .exact⟨oa,q▸ka oa hoa⟩
  .rw[addO_ne q]at z;obtain⟨o,e⟩:=I.olv b z;exact⟨o,ko b o z e⟩
 .obtain⟨o,Q⟩:=I.flv b f;exact⟨o,hk b o (fun q=>I.wf.nf i l hl<|q▸f) Q.1,Q.2⟩
 .rcases set_get e with⟨rfl,rfl⟩ | ⟨hne,e⟩
  .exact⟨l,.ref a,hl,hr,SlotV.mono (af:=fun b=>b=a) kz (fun j0_ z=>z) (fun b q=>by subst q;exact addO_self) (fun b o q e=>by subst q;exact ka o e) w⟩
  .obtain⟨k,w,hk',r,q⟩:=I.at' j sl e n;refine⟨k,w,hk',ho j k w hne hk' r,q.mono kz (fun j0_ z=>z) (fun b z=>?_) fun a o z=>ko a o (by refine O z ?_;exact fun n=>by exact nomatch n)⟩;rw[addO_ne]
   .exact z
   .intro q;rw[q,na]at z;exact nos z
theorem Inv.setC(I:Inv y ai Z h Y){i:Nat}{a:Addr}{sl:Slot}{l:Loc}(hl:y.loc i=some l)(hr:rdL h l (.ref a))(oa:ai a=some i)
  (hk:∀b o,b≠a→h.get? b=some o→h'.get? b=some o) (lv:∃o,h'.get? a=some o) (w:SlotV h' Z (fun b=>ai b=some i) sl (.ref a)) :Inv y ai Z h' (Y.set i sl):=by
 have on:ai a≠none:=by exact O oa (fun n=>by exact nomatch n)
 have kz:∀b o,Z b→h.get? b=some o→h'.get? b=some o:=fun b o z e=>hk b o (fun q=>on<|q▸I.zo b z) e;have kl:∀j k,y.loc j=some k→ ∀o,h.get? k.addr=some o→h'.get? k.addr=some o:=fun j k e o=>hk _ o fun q=>on<|q▸I.ol j k e;obtain⟨oa',hoa⟩:=lv;refine⟨I.wf,fun a o e=>kz a o (I.zb a o e)<|I.base a o e,I.zb,I.zo,I.zl,I.ol,I.zL,I.oL,I.zF,I.oF,fun b z=>?_,fun b z=>?_,fun b f=>?_,fun j k e=>(I.ok j k e).keeps<|kl j k e,?_,fun p e=>(I.sf p e).mono kz (fun j0_ z=>z) fun l v hl' r=>r.keeps<|kl _ _ hl',fun j sl e n=>?_⟩
 .obtain⟨o,e⟩:=I.zlv b z;exact⟨o,kz b o z e⟩
 .by_cases q:b=a
  .exact⟨oa',q▸hoa⟩
  .obtain⟨o,e⟩:=I.olv b z;exact⟨o,hk b o q e⟩
 .obtain⟨o,Q⟩:=I.flv b f;exact⟨o,hk b o (fun q=>I.oF a on<|q▸f) Q.1,Q.2⟩
 .obtain⟨m,hn⟩:=I.nsL;exact⟨m,hn.at' fun o=>hk _ o fun q=>on<|q▸I.oL⟩
 .rcases set_get e with⟨rfl,rfl⟩ | ⟨hne,e⟩
  .exact⟨l,.ref a,hl,hr.keeps<|kl _ _ hl,w⟩
  .obtain⟨k,v,hk',r,q⟩:=I.at' j sl e n;refine⟨k,v,hk',r.keeps<|kl _ _ hk',q.mono kz (fun j0_ z=>z) (fun j0_ z=>z) fun b o z e=>hk b o (fun q=>?_) e⟩;rw[q,oa]at z;exact hne (Option.some.inj z).symm
end
end Mv
end
section
set_option backward.match.sparseCases false
namespace Mv
open PySem PyProof.Rows
variable [Hp]
noncomputable def Dat(h:Heap)(Z:Addr→Prop)(v:Value)(d:D) :Prop:=Rep h Z v d∨ ∃a,v = .ref a∧OwnAt h Z a d
section
variable {h h':Heap}{Z Z':Addr→Prop}{v:Value}
theorem Rep.dat{d:D}(r:Rep h Z v d) :Dat h Z v d:=.inl r
inductive DatI(v:Value)(i:Int) :Prop
 | mk (t:_) :v = .int i t→DatI v i
inductive DatS(v:Value)(x:Str) :Prop
 | mk (t:_) :v = .str x t→PyData.strOk x=true→x.cps.size≤Sz→DatS v x
inductive DatL(h:Heap)(Z:Addr→Prop)(v:Value)(X:aB) :Prop
 | mk (a:Addr) (vs:ay) (n:Nat) :v = .ref a→IsL h a vs.toArray n→vs.length≤Sz→RepAll h Z vs X→DatL h Z v X
inductive DatT(h:Heap)(Z:Addr→Prop)(v:Value)(X:aB) :Prop
 | mk (a:Addr) (vs:ay) (n:Nat) :v = .ref a→IsT h a vs.toArray n→vs.length≤Sz→RepAll h Z vs X→Z a→DatT h Z v X
inductive DatK(h:Heap)(Z:Addr→Prop)(v:Value)(X:aC) :Prop
 | mk (a:Addr) (kvs:List (Str×Value)) :v = .ref a→DictS h a kvs→kvs.length≤Sz→RepKV h Z kvs X→DatK h Z v X
noncomputable def DatQ(h:Heap)(Z:Addr→Prop)(v:Value) :D→Prop
 | .none=>v = .none
 | .bool b=>v = .bool b
 | .int i=>DatI v i
 | .str x=>DatS v x
 | .list X=>DatL h Z v X
 | .tuple X=>DatT h Z v X
 | .dict X=>DatK h Z v X
theorem Dat.q{d:D}(r:Dat h Z v d) :DatQ h Z v d:=r.elim
 (fun r=>Rep.casesOn (motive_1:=fun v d j0_=>DatQ h Z v d) r rfl (fun j0_=>rfl) (fun j0_ t=>⟨t,rfl⟩) (fun j0_ t o l=>⟨t,rfl,o,l⟩) (fun j0_ g l r=>⟨_,_,_,rfl,g,l,r⟩) (fun z g l r=>⟨_,_,_,rfl,g,l,r,z⟩) (fun j0_ g l r=>⟨_,_,rfl,g,l,r⟩))
 fun⟨a,e,w⟩=>O e<|OwnAt.casesOn (motive:=fun d j0_=>DatQ h Z (.ref a) d) w (fun g l r=>⟨_,_,_,rfl,g,l,r⟩) (fun g l r=>⟨_,_,rfl,g,l,r⟩)
theorem Dat.none(r:Dat h Z v .none) :v = .none:=r.q
theorem Dat.bool{b:Bool}(r:Dat h Z v (.bool b)) :v = .bool b:=r.q
theorem Dat.int{i:Int}(r:Dat h Z v (.int i)) :DatI v i:=r.q
theorem Dat.str{x:Str}(r:Dat h Z v (.str x)) :DatS v x:=r.q
theorem Dat.list{X:aB}(r:Dat h Z v (.list X)) :DatL h Z v X:=r.q
theorem Dat.tuple{X:aB}(r:Dat h Z v (.tuple X)) :DatT h Z v X:=r.q
theorem Dat.dict{X:aC}(r:Dat h Z v (.dict X)) :DatK h Z v X:=r.q
theorem OwnAt.reads{a:Addr}{d:D}(x:OwnAt h Z a d)(e:noDict d=true) :∃as,Reads h (.ref a) d as:=by cases x with
 | list g l r=>obtain⟨as,q⟩:=r.reads e;exact⟨_,.list g rfl rfl q⟩
 | dict g l r=>exact tf e
theorem Dat.reads{d:D}(r:Dat h Z v d)(e:noDict d=true) :∃as,Reads h v d as:=by
 rcases r with r | ⟨a,rfl,r⟩
 .exact r.reads e
 .exact r.reads e
theorem Dat.canLay{d:D}(r:Dat h Z v d)(e:noDict d=true) :d.canLay0=true:=by
 rcases r with r | ⟨a,rfl,r⟩
 .exact r.canLay e
 .cases r with
  | list g l r=>rw[PyData.canLay0];exact r.canLay e
  | dict g l r=>exact tf e
end
theorem RepKV.isSome{h:Heap}{Z:Addr→Prop}{vs:List (Str×Value)}{X:aC}{k:Str}(r:RepKV h Z vs X) :(valueAt vs k).isSome=(dgetL X k).isSome:=by rcases r.get (k:=k) with⟨h1,h2⟩ | ⟨v,d,h1,h2,_⟩ <;> exact O h1 (O h2 rfl) <;> rfl
inductive ResAt(Z:Addr→Prop)(h h':Heap) :Rv→Value→Prop
 | old {d:D} {v:Value} :Rep h' Z v d→ResAt Z h h' (.fz d) v
 | new {a:Addr} {o:Obj} {d:D} :h.get? a=none→h'.get? a=some o→Rep h' (fun b=>Z b∨b=a) (.ref a) d→ResAt Z h h' (.fz d) (.ref a)
 | ai {a:Addr} {d:D} :h.get? a=none→OwnAt h' Z a d→ResAt Z h h' (.ai d) (.ref a)
inductive Op(Z:Addr→Prop)(s:Shared)(r:Rv)(v:Value)(s':Shared) :Prop
 | mk (h':Heap) (tk:Nat) :s'={s with heap:=h',toks:=tk}→(∀b o,s.heap.get? b=some o→h'.get? b=some o)→ResAt Z s.heap h' r v→Op Z s r v s'
theorem hN0(h:Heap) :h.get? h.objs.size=none:=by cases q:h.get? h.objs.size with
 | none=>rfl
 | some o=>exact absurd (Heap.lt_size q)<|Nat.lt_irrefl _
theorem pK{h:Heap}(o:Obj)(b:Addr)(x:Obj)(e:h.get? b=some x) :(h.push o).get? b=some x:=Heap.get?_push_of_some o e
section
variable {Z:Addr→Prop}{s:Shared}
theorem Op.val{d:D}{v:Value}(r:Rep s.heap Z v d) :Op Z s (.fz d) v s:=⟨s.heap,s.toks,rfl,fun j0_ j1_ e=>e,.old r⟩
theorem Op.valT{d:D}{v:Value}{tk:Nat}(r:Rep s.heap Z v d) :Op Z s (.fz d) v {s with toks:=tk}:=⟨s.heap,tk,rfl,fun j0_ j1_ e=>e,.old r⟩
theorem Op.bool{b:Bool} :Op Z s (.fz<|.bool b) (.bool b) s:=.val<|.bool b
theorem Op.int{i:Int}{t tk:Nat} :Op Z s (.fz<|.int i) (.int i t) {s with toks:=tk}:=.valT<|.int i t
theorem Op.newL{vs:ay}{X:aB}{n:Nat}(r:RepAll s.heap Z vs X)(hl:vs.length≤Sz) :Op Z s (.ai (.list X)) (.ref s.heap.objs.size) {s with heap:=s.heap.push {cls:=.type "list",data:=.seq vs.toArray n}}:=
 ⟨_,s.toks,rfl,pK _,.ai (hN0 _)<|.list (Heap.get?_push_size _ rfl) hl<|r.mono (fun a o j0_ e=>pK _ a o e) fun j0_ z=>z⟩
theorem Op.newT{vs:ay}{X:aB}{n:Nat}(r:RepAll s.heap Z vs X)(hl:vs.length≤Sz) :Op Z s (.fz (.tuple X)) (.ref s.heap.objs.size) {s with heap:=s.heap.push {cls:=.type "tuple",data:=.seq vs.toArray n}}:=
 ⟨_,s.toks,rfl,pK _,.new (hN0 _) (Heap.get?_push_size _ rfl)<|.tuple (.inr rfl) (Heap.get?_push_size _ rfl) hl<|r.mono (fun a o j0_ e=>pK _ a o e) fun j0_ z=>.inl z⟩
end
theorem sz_line:Sz=sizeLine:=by decide
section
variable {A:Around}{E:Value→Shared→Prop}{s:Shared}{Z:Addr→Prop}{a b:Value}
theorem noFill_tuple_mul:fillsNumberSlot (.type "tuple") "mul"=pure false:=
 PySem.fillsNumberSlot_seq (id:="tuple.__mul__") (r:=some (.builtin "tuple.__rmul__")) F.slot_tuple_mul.lookup (by decide +kernel) F.slot_tuple_rmul.lookup (by decide +kernel)
theorem repeat_tuple:seqRepeat? (.type "tuple")=pure (some (.builtin "tuple.__mul__")):=by unfold seqRepeat?;rw [PySem.seqSlot_of (T:="tuple") (name:="__mul__") (id:="tuple.__mul__") F.slot_tuple_mul.lookup (by decide +kernel),PySem.seqSlot_of (T:="tuple") (name:="__rmul__") (id:="tuple.__rmul__") F.slot_tuple_rmul.lookup (by decide +kernel)];rfl
theorem tm_int_rmul(x:Int)(t:Tok)(l:Addr)(items:Array Value)(n:Nat) :
  Meets (Builtin.«int.__rmul__» ⟨[.int x t,.ref l],[]⟩) (fun j0_ R s=>IsT s.heap l items n∧R (.ok<|.ret Value.notImplemented) s):=
 .of_wp fun prog w A R s h=>by obtain⟨hp,g,d,tk,os⟩:=s;obtain⟨hl,h⟩:=h;wp_walk;exact⟨_,rfl,h⟩
theorem tm_tuple_mul_1(l:Addr)(items:Array Value)(n:Nat)(u:Tok) :
  Meets (Builtin.«tuple.__mul__» ⟨[.ref l,.int 1 u],[]⟩) (fun j0_ R s=>IsT s.heap l items n∧R (.ok<|.ret<|.ref l) s):=
 .of_wp fun prog w A R s h=>by
  obtain⟨hp,g,d,tk,os⟩:=s;obtain⟨hl,h⟩:=h
  wp_walk
  exact⟨_,rfl,h⟩
theorem tm_tuple_mul_0(l:Addr)(v:Value)(n:Nat)(u:Tok) :
  Meets (Builtin.«tuple.__mul__» ⟨[.ref l,.int 0 u],[]⟩) (fun j0_ R s=>IsT s.heap l #[v] n∧R (.ok (.ret (.ref s.heap.objs.size))) {s with heap:=s.heap.push {cls:=.type "tuple",data:=.seq #[]}}):=
 .of_wp fun prog w A R s h=>by
  obtain⟨hp,g,d,tk,os⟩:=s;obtain⟨hl,h⟩:=h
  wp_walk
  exact⟨_,rfl,h⟩
theorem tm_fold(items:ay)(k:Nat) :List.foldl (fun x1 x2=>x1++x2) #[] (List.replicate k items.toArray)=(List.replicate k items).flatten.toArray:=by
 have:=listMul_foldl items.toArray k #[]
 simpa using this
set_option tactic.hygienic true in
theorem intBits_le{x:Int}(h:x.natAbs<2 ^ 64) :Builtin.Int.intBits x≤64:=by
 unfold Builtin.Int.intBits;split
 .exact Nat.zero_le _
 .rename_i q;have hx:x.natAbs≠0:=by intro e;exact q (by simpa using e)
  exact(Nat.log2_lt hx).mpr h
theorem mulOk_fits{x z:Int}(h:mulOk x z=true) :IntMulOk x z:=by
 rcases Bool.or_eq_true_iff.mp h with h | h
 .exact .of_left (intBits_le<|of_decide_eq_true h)
 .exact .of_right (intBits_le<|of_decide_eq_true h)
theorem strOk_append{x z:Str}(h:PyData.strOk x=true)(k:PyData.strOk z=true) :PyData.strOk (x++z)=true:=by unfold PyData.strOk at *;refine O Array.all_append<|O h<|O k ?_;rfl
theorem rep_flat{α:Type}(n:Int)(M:List α) :rep n M=(List.replicate n.toNat M).flatten:=rfl
theorem rep_len{α:Type}(n:Int)(M:List α) :(rep n M).length=M.length*n.toNat:=by unfold rep;refine O List.length_flatten ?_;simp[Nat.mul_comm]
theorem txt_foldl(M:aw)(k:Nat)(am:aw) :(List.replicate k M.toArray).foldl (· ++ ·) am.toArray=(am++(List.replicate k M).flatten).toArray:=by induction k generalizing am with
 | zero=>simp
 | succ k ih=>refine O List.replicate_succ ?_;refine O List.foldl_cons ?_;rw[List.append_toArray,ih,List.replicate_succ,List.flatten_cons,List.append_assoc]
set_option tactic.hygienic true in
theorem txt_mul(x:Str)(n:Int) :Txt.mul x n=⟨(rep n x.cps.toList).toArray⟩:=by
 obtain⟨⟨l⟩⟩:=x;unfold Txt.mul rep;split
 .rename_i h;have e:n.toNat=0:=by omega
  refine O e ?_;rfl
 .rename_i h;split
  .rename_i q;rcases Bool.or_eq_true_iff.mp q with q | q
   .have e:n=1:=by simpa using q
    subst e;simp
   .have e:l=[]:=by simpa [Str.length] using q
    subst e;simp
  .have:=txt_foldl l n.toNat []
   simpa using congrArg Str.mk this
theorem strOk_rep{x:Str}(n:Int)(h:PyData.strOk x=true) :PyData.strOk ⟨(rep n x.cps.toList).toArray⟩=true:=by
 unfold PyData.strOk at *;rw[← Array.all_toList]at *;rw[List.all_eq_true]at *;intro c hc;have hc':c∈rep n x.cps.toList:=by exact hc
 unfold rep at hc';obtain⟨l,hl,hm⟩:=List.mem_flatten.mp hc';rw[List.eq_of_mem_replicate hl]at hm;exact h c hm
set_option tactic.hygienic true in
theorem noPylong{x z:Int}(h:z.natAbs<2 ^ 64) :Builtin.divisionGoesByPylong x z=false:=by
 unfold Builtin.divisionGoesByPylong;have:(if (z==0)=true then 0 else z.natAbs.log2 / 30+1)≤300:=by
  split
  .exact Nat.zero_le _
  .rename_i q;have hz:z.natAbs≠0:=by intro e;exact q (by simpa using e)
   have:=(Nat.log2_lt hz).mpr h;exact(lin [z.natAbs.log2 / (30:Nat),z.natAbs.log2,z.natAbs.log2 % (30:Nat)] [] 30 (.w (.p 1 .x)<|.c 300) [Gl (.p 1 .y)<|.c 64,Ge (.a (.m 30 .x) .z) .y] rfl this<|Nat.div_add_mod (z.natAbs.log2) 30)
 simp only;refine O (decide_eq_false (by exact(fun mvo6=>(Lf [if (z==(0:Int))=true then(0:Nat) else z.natAbs.log2 / (30:Nat)+(1:Nat)] [Gl .x<|.c 300,Gl (.p 1<|.c 300) .x] rfl this mvo6)))) ?_;rfl
theorem mulI_some{a b:Int}{r:Rv}(h:mulI a b=some r) :mulOk a b=true∧ .fz (.int<|a*b)=r:=ifs h
set_option tactic.hygienic true in
theorem op_bin{o:Op2}{op:Operator}{d e:D}{r:Rv}(ho:op=(match o with | .add=>.Add | .sub=>.Sub | .mul=>.Mult | .fdiv=>.FloorDiv | .mod=>.Mod | .pow=>.Pow))(he:op2 o d e=some r)(ra:Dat s.heap Z a d)(rb:Dat s.heap Z b e) :
  wpAny (model prog w) A (binaryOp op a b) (Op Z s r) E s:=by
 subst ho;cases o with
 | add=>
  cases d <;> first | exact nos he | (cases e <;> first | exact nos he | skip)
  .obtain⟨t,rfl⟩:=ra.int;obtain⟨u,rfl⟩:=rb.int;obtain rfl:=sos he;exact add_int .int
  .obtain⟨t,rfl,o1,z1⟩:=ra.str;obtain⟨u,rfl,o2,z2⟩:=rb.str;obtain⟨hz,rfl⟩:=ifs he;exact SB.add (fun t' k=>.valT<|.str _ t' (strOk_append o1 o2) (by show(_++_:Array Nat).size≤_;rw[Array.size_append];exact hz)) (by rw[← sz_line];exact hz)
  .obtain⟨l,vs,n,rfl,hl,hn,R⟩:=ra.list;obtain⟨l',vs',n',rfl,hl',hn',R'⟩:=rb.list;obtain⟨hz,rfl⟩:=ifs he;refine P.add_list hl hl' ?_ (by rw[List.size_toArray,List.size_toArray,R.length,R'.length,← sz_line];exact hz);rw[List.append_toArray];exact .newL (R.append R') (by rw[List.length_append,R.length,R'.length];exact hz)
  .obtain⟨l,vs,n,rfl,hl,hn,R,zl⟩:=ra.tuple;obtain⟨l',vs',n',rfl,hl',hn',R',zl'⟩:=rb.tuple;obtain⟨hz,rfl⟩:=ifs he;by_cases hv:vs=[]
   .subst hv;cases R;exact concat_meets ⟨_,hl,rfl⟩ ⟨_,hl',rfl⟩ noFill_tuple_add seq_tuple_add PySem.F.slot_tuple_add PySem.F.entry_tuple_add (PySem.F.args_tuple_add_2 _ _)
     (AutoSeq1.tuple___add___tuple_tuple_0 l _ n l' vs'.toArray n' rfl) ⟨hl,hl',.val<|.tuple zl' hl' hn' R'⟩
   .by_cases hw:vs'=[]
    .subst hw;cases R';rw[List.append_nil];exact concat_meets ⟨_,hl,rfl⟩ ⟨_,hl',rfl⟩ noFill_tuple_add seq_tuple_add PySem.F.slot_tuple_add PySem.F.entry_tuple_add (PySem.F.args_tuple_add_2 _ _)
      (AutoSeq1.tuple___add___tuple_tuple_1 l vs.toArray n l' _ n' (by simpa using hv) rfl) ⟨hl,hl',.val<|.tuple zl hl hn R⟩
    .refine P.add_tuple hl hl' (by simpa using hv) (by simpa using hw) ?_ (by rw[List.size_toArray,List.size_toArray,R.length,R'.length,← sz_line];exact hz);rw[List.append_toArray];exact .newT (R.append R') (by rw[List.length_append,R.length,R'.length];exact hz)
 | sub=>
  cases d <;> first | exact nos he | (cases e <;> first | exact nos he | skip)
  obtain⟨t,rfl⟩:=ra.int;obtain⟨u,rfl⟩:=rb.int;obtain rfl:=sos he;exact sub_int .int
 | mul=>
  cases d <;> first | exact nos he | (cases e <;> first | exact nos he | skip)
  .obtain⟨t,rfl⟩:=ra.int;obtain⟨u,rfl⟩:=rb.int;obtain⟨hz,rfl⟩:=mulI_some he;exact PyProof.Rows.mul_int .int<|mulOk_fits hz
  .obtain⟨t,rfl,o1,z1⟩:=ra.str;obtain⟨u,rfl⟩:=rb.int;rename_i x n;obtain⟨hz,rfl⟩:=ifs he;have hm:¬n<1→((n.toNat:Nat) :Int)=n:=fun q=>Int.toNat_of_nonneg (by exact(lin [] [n] 1 (.le (.c 0)<|.v 0) [(1,.le (.c 1)<|.v 0)] rfl<|Int.not_lt.mp q));refine SB.mul ⟨by simp;exact⟨(lin [] [n] 1 (.le (.g<|.c 9223372036854775808)<|.v 0) [(1,.le (.g<|.c 1000000000)<|.v 0)] rfl (hz).1),(lin [] [n] 1 (.le (.a (.v 0)<|.c 1)<|.c 9223372036854775808) [(1,.le (.v 0)<|.c 1000000000)] rfl ((hz).2).1)⟩,fun q j0_=>?_,fun q j0_=>?_⟩ fun t' k=>?_
   .have h2:(x.length:Int)*n≤16777216:=by
     have:((x.cps.size*n.toNat:Nat) :Int)≤((16777216:Nat) :Int):=Int.ofNat_le.mpr hz.2.2;rw[Int.natCast_mul,hm q]at this;exact this
    have h3:(x.length:Int)≤(2 ^ 63 - 1) / n:=Int.le_ediv_of_mul_le (by exact(lin [] [n] 1 (.le (.a (.c 0)<|.c 1)<|.v 0) [(1,.le (.c 1)<|.v 0)] rfl<|Int.not_lt.mp q)) (by omega);exact(fun mvo20=>(linF [x.length] [((2:Int) ^ (63:Nat) - (1:Int)) / n] [(1,.le (.n<|.v 0)<|.v 0),(1,.le (.a (.v 0)<|.c 1)<|.n<|.v 0)] rfl h3 mvo20))
   .unfold Builtin.Str.tooLong;have h2:x.length*n.toNat≤16777216:=hz.2.2;rw[show sizeLine=16777216 from rfl];simp;exact h2
   .rw[txt_mul];exact .valT<|.str _ t' (strOk_rep n o1) (by show(rep n x.cps.toList).toArray.size≤_;rw[List.size_toArray,rep_len,Array.length_toList];exact hz.2.2)
  .obtain⟨l,vs,n,rfl,hl,hn,R,zl⟩:=ra.tuple;obtain⟨u,rfl⟩:=rb.int;rename_i x;have rp:∀ {Q:Value→Shared→Prop},wpAny (model prog w) A (call (.builtin "tuple.__mul__") [.ref l,.int x u]) Q E s→wpAny (model prog w) A (binaryOp .Mult (.ref l) (.int x u)) Q E s:=fun h=>by
    refine wpAny_binaryOp_repeat_ref (T:="tuple") (U:="int") (by decide) ⟨_,hl,rfl⟩ (fun s'=>typeIs_int s' x u) noFill_tuple_mul PySem.F.fills_int_mul PySem.F.slot_int_rmul repeat_tuple PySem.F.slot_int_index.lookup
     (call_meets PySem.F.slot_int_rmul (typeIs_int s x u) PySem.F.entry_int_rmul (PySem.F.args_int_rmul_2 _ _) (tm_int_rmul x u l vs.toArray n) ⟨hl,rfl,⟨_,hl,rfl⟩,h⟩)
   refine rp ?_;obtain⟨h1,he⟩:=ifx he;have he:(if x=1 then some (Rv.fz<|.tuple _) else if x=0 then some (Rv.fz<|.tuple []) else none)=some r:=he;by_cases q:x=1
   .subst q;rw[if_pos rfl]at he;obtain rfl:=sos he;exact call_meets PySem.F.slot_tuple_mul ⟨_,hl,rfl⟩ PySem.F.entry_tuple_mul (PySem.F.args_tuple_mul_2 _ _) (tm_tuple_mul_1 l _ n u) ⟨hl,.val<|.tuple zl hl hn R⟩
   .rw[if_neg q]at he;obtain⟨rfl,rfl⟩:=ifs he;obtain⟨v,rfl⟩:=List.length_eq_one_iff.mp<|R.length.trans h1;exact call_meets PySem.F.slot_tuple_mul ⟨_,hl,rfl⟩ PySem.F.entry_tuple_mul (PySem.F.args_tuple_mul_2 _ _) (tm_tuple_mul_0 l v n u) ⟨hl,.newT .nil<|Nat.zero_le _⟩
 | fdiv=>
  cases d <;> first | exact nos he | (cases e <;> first | exact nos he | skip)
  obtain⟨t,rfl⟩:=ra.int;obtain⟨u,rfl⟩:=rb.int;obtain⟨hz,rfl⟩:=ifs he;exact floordiv_int hz.1 .int<|.inl<|noPylong hz.2
 | mod=>
  cases d <;> first | exact nos he | (cases e <;> first | exact nos he | skip)
  obtain⟨t,rfl⟩:=ra.int;obtain⟨u,rfl⟩:=rb.int;obtain⟨hz,rfl⟩:=ifn he;exact mod_int hz .int
 | pow=>
  cases d <;> first | exact nos he | (cases e <;> first | exact nos he | skip)
  obtain⟨t,rfl⟩:=ra.int;obtain⟨u,rfl⟩:=rb.int;obtain⟨hz,rfl⟩:=ifs he;exact pow_int_small hz.1 (by omega) hz.2.2 .int
theorem str_eqv(x z:Str) :(x==z)=(x.cps.toList==z.cps.toList):=by
 obtain⟨⟨l⟩⟩:=x;obtain⟨⟨k⟩⟩:=z;by_cases q:l=k
 .subst q;simp
 .have h1:((⟨⟨l⟩⟩ :Str)==⟨⟨k⟩⟩)=false:=by
   rw[beq_eq_false_iff_ne];intro e;apply q;injection e with e;injection e
  refine O h1 ?_;symm;simpa using q
theorem eqD_eqv{d e:D}{b:Bool}(h:eqD d e=some b) :b=PyData.eqv d e∧(noDict d=true∧noDict e=true∧min d.depth e.depth≤64):=by
 have k:∀{a b:D}{x:Bool},(if eqOk a b then some (PyData.eqv a b) else none)=some x→x=PyData.eqv a b∧(noDict a=true∧noDict b=true∧min a.depth b.depth≤64):=fun q=>by have Q:=ifs q;refine O Q.2 ?_;have q:=Q.1;unfold eqOk at q;exact⟨rfl,by simpa [Bool.and_eq_true,and_assoc] using q⟩
 cases d <;> first
  | exact k h
  | (cases e <;> first
   | exact k h
   | (exact erk h;refine⟨?_,⟨rfl,rfl,by show _≤64;exact Nat.le_trans (Nat.min_le_left _ _) (by refine O PyData.depth ?_;decide)⟩⟩;rw[PyData.eqv];done)
   | (refine O (sos h).symm ?_;refine⟨?_,⟨rfl,rfl,by show _≤64;exact Nat.le_trans (Nat.min_le_left _ _) (by rw[PyData.depth];decide)⟩⟩;rw[PyData.eqv,str_eqv];done))
theorem anyEq_eqv{x:D} :∀{X:aB}{b:Bool},anyEq x X=some b→b=X.any (fun y=>PyData.eqv y x)∧noDicts X=true∧min (PyData.depthAll X) x.depth≤64:=by intro X b h;induction X generalizing b with
 | nil=>refine O (sos h).symm ?_;exact⟨rfl,rfl,by simp[PyData.depthAll]⟩
 | cons d X ih=>
  have h:(match eqD d x with
   | none=>none
   | some b=>match anyEq x X with
    | none=>none
    | some c=>some<|b||c)=some b:=h
  cases hc:eqD d x with
  | none=>rw[hc]at h;exact nos h
  | some c=>rw[hc]at h;cases hc':anyEq x X with
   | none=>rw[hc']at h;exact nos h
   | some c'=>rw[hc']at h;refine O (sos h).symm ?_;refine⟨by exact O List.any_cons<|O ((eqD_eqv hc).1)<|O ((ih hc').1) rfl,by show(noDict d&&noDicts X)=true;rw[(eqD_eqv hc).2.1,(ih hc').2.1];rfl,?_⟩;simp only[PyData.depthAll];exact(Nat.le_total (PyData.depth d)<|PyData.depthAll X).elim (fun q=>by refine O (Nat.max_eq_right q) ?_;exact(ih hc').2.2) (fun q=>by refine O (Nat.max_eq_left q) ?_;exact(eqD_eqv hc).2.2.2)
theorem cmp_eq{d e:D}{b':Bool}(he:eqD d e=some b')(ra:Dat s.heap Z a d)(rb:Dat s.heap Z b e)(hu:A.units+64<cLine) :wpAny (model prog w) A (compareOp .Eq a b) (Op Z s<|.fz<|.bool b') E s:=by have q:=eqD_eqv he;refine O q.1 ?_;obtain⟨as,qa⟩:=ra.reads q.2.1;obtain⟨bs,qb⟩:=rb.reads q.2.2.1;exact SeqAt.compareEq_reads qa qb (ra.canLay q.2.1) (rb.canLay q.2.2.1) (Ln [A.5,min (PyData.depth d)<|PyData.depth e,cLine] (.w (.p 1<|.a .x .y) .z) [Gl (.p 1<|.p 64 .x) .z,Gl .y<|.c 64] rfl hu q.2.2.2) .bool
theorem cmp_ne{d e:D}{b':Bool}(he:eqD d e=some b')(ra:Dat s.heap Z a d)(rb:Dat s.heap Z b e)(hu:A.units+64<cLine) :wpAny (model prog w) A (compareOp .NotEq a b) (Op Z s<|.fz<|.bool<|!b') E s:=by have q:=eqD_eqv he;refine O q.1 ?_;obtain⟨as,qa⟩:=ra.reads q.2.1;obtain⟨bs,qb⟩:=rb.reads q.2.2.1;exact SeqAt.compareNe_reads qa qb (ra.canLay q.2.1) (rb.canLay q.2.2.1) (Ln [A.5,min (PyData.depth d)<|PyData.depth e,cLine] (.w (.p 1<|.a .x .y) .z) [Gl (.p 1<|.p 64 .x) .z,Gl .y<|.c 64] rfl hu q.2.2.2) .bool
theorem nd_tuple{M:aB}(h:noDicts M=true) :noDict (.tuple M)=true:=h
theorem cl_tuple{M:aB}(h:PyData.canLay0 (.tuple M)=true) :PyData.canLayAll0 M=true:=by rwa [PyData.canLay0]at h
theorem in_line{u m:Nat}(hu:u+66<cLine)(h:m≤64) :u+1+m<cLine:=by exact(Ln [u,m,cLine] (.w (.p 1<|.a (.p 1 .x) .y) .z) [Gl (.p 1<|.p 66 .x) .z,Gl .y<|.c 64] rfl hu h)
theorem nd_list{M:aB}(h:noDicts M=true) :noDict (.list M)=true:=h
theorem cl_list{M:aB}(h:PyData.canLay0 (.list M)=true) :PyData.canLayAll0 M=true:=by rwa [PyData.canLay0]at h
theorem in_seq{d:D}{M:aB}{b':Bool}(he:(if noDict d=true then anyEq d M else none)=some b') :noDict d=true∧b'=M.any (fun y=>PyData.eqv y d)∧noDicts M=true∧min (PyData.depthAll M) d.depth≤64:=by
 by_cases q:noDict d=true
 .rw[if_pos q]at he;exact⟨q,anyEq_eqv he⟩
 .rw[if_neg q]at he;exact nos he
theorem cmp_in{d e:D}{b':Bool}(he:inD d e=some b')(ra:Dat s.heap Z a d)(rb:Dat s.heap Z b e)(hu:A.units+66<cLine) :wpAny (model prog w) A (compareOp .In a b) (Op Z s<|.fz<|.bool b') E s:=by cases e with
 | tuple M=>obtain⟨hd,rfl,h1,h2⟩:=in_seq he;obtain⟨as,qa⟩:=ra.reads hd;obtain⟨bs,qb⟩:=rb.reads h1;exact SeqAt.in_tuple_reads qb qa (cl_tuple<|rb.canLay<|nd_tuple h1) (ra.canLay hd) (in_line hu h2) .bool
 | list M=>obtain⟨hd,rfl,h1,h2⟩:=in_seq he;obtain⟨as,qa⟩:=ra.reads hd;obtain⟨bs,qb⟩:=rb.reads h1;exact SeqAt.in_list_reads qb qa (cl_list<|rb.canLay<|nd_list h1) (ra.canLay hd) (in_line hu h2) .bool
 | dict kvs=>cases d with
  | str x=>obtain rfl:=sos he;obtain⟨u,rfl,_,_⟩:=ra.str;obtain⟨l,kv,rfl,hd,hl,R⟩:=rb.dict;exact wpAny_in_of (knd:=strKind prog w) (strKind_is _ _ _ u) hd.1 hd.2.mapOf<|O R.isSome<|.valT<|.bool _
  | _=>exact nos he
 | _=>exact nos he
set_option tactic.hygienic true in
theorem cmp_nel{d e:D}{b':Bool}(he:nelD d e=some b')(ra:Dat s.heap Z a d)(rb:Dat s.heap Z b e)(hu:A.units<cLine) :wpAny (model prog w) A (compareOp .NotEq a b) (Op Z s<|.fz<|.bool b') E s:=by
 refine hidG fun G g=>?_;cases d <;> first | exact nos he | (cases e <;> first | exact nos he | skip)
 rename_i M ys;cases ys with
 | cons _ _=>refine g ?_;exact nos he
 | nil=>refine g ?_;refine O (sos he).symm ?_;obtain⟨l,vs,n,rfl,hl,hn,R⟩:=ra.list;obtain⟨l',vs',n',rfl,hl',hn',R'⟩:=rb.list;cases R';cases M with
  | nil=>cases R;exact SeqAt.RcNeAt.lists (e:=fun j0_=>true) ⟨_,hl,rfl,_,rfl⟩ ⟨_,hl',rfl,_,rfl⟩ rfl hu (fun j h1=>absurd h1<|Nat.not_lt_zero _) _ _ _ _ .bool
  | cons x M=>cases R;exact SeqAt.RcNeAt.lists_lengths ⟨_,hl,rfl,_,rfl⟩ ⟨_,hl',rfl,_,rfl⟩ rfl hu _ _ _ _ .bool
noncomputable def cmOp:Cm→CmpOp
 | .eq=>.Eq | .ne=>.NotEq | .lt=>.Lt | .gt=>.Gt | .ge=>.GtE | .isin=>.In | .nel=>.NotEq
theorem op_cmp{o:Cm}{d e:D}{b':Bool}(he:cmpD o d e=some b')(ra:Dat s.heap Z a d)(rb:Dat s.heap Z b e)(hu:A.units+66<cLine) :
  wpAny (model prog w) A (compareOp (cmOp o) a b) (Op Z s<|.fz<|.bool b') E s:=by
 cases o with
 | eq=>exact cmp_eq he ra rb<|lin [A.5,cLine] [] 1 (.nle (.a (.a (.v 0)<|.c 64)<|.c 1)<|.v 1) [(1,.nle (.a (.a (.v 0)<|.c 66)<|.c 1)<|.v 1)] rfl hu
 | ne=>obtain⟨c,hc,rfl⟩:=Option.map_eq_some_iff.mp he;exact cmp_ne hc ra rb<|lin [A.5,cLine] [] 1 (.nle (.a (.a (.v 0)<|.c 64)<|.c 1)<|.v 1) [(1,.nle (.a (.a (.v 0)<|.c 66)<|.c 1)<|.v 1)] rfl hu
 | lt=>
  cases d <;> first | exact nos he | (cases e <;> first | exact nos he | skip)
  obtain rfl:=sos he;obtain⟨t,rfl⟩:=ra.int;obtain⟨u,rfl⟩:=rb.int;exact lt_int .bool
 | gt=>
  cases e <;> first | exact nos he | (cases d <;> first | exact nos he | skip)
  obtain rfl:=sos he;obtain⟨t,rfl⟩:=ra.int;obtain⟨u,rfl⟩:=rb.int;exact gt_int .bool
 | ge=>
  cases e <;> first | exact nos he | (cases d <;> first | exact nos he | skip)
  obtain rfl:=sos he;obtain⟨t,rfl⟩:=ra.int;obtain⟨u,rfl⟩:=rb.int;exact PyProof.Rows.ge_int .bool
 | isin=>exact cmp_in he ra rb hu
 | nel=>exact cmp_nel he ra rb<|Nat.lt_of_le_of_lt (Nat.le_add_right _ _) hu
end
end Mv
end
section
set_option backward.match.sparseCases false
namespace Mv
open PySem PyProof.Rows
variable [Hp]
section
variable {A:Around}{E:Value→Shared→Prop}{s:Shared}{Z:Addr→Prop}{a b:Value}
theorem op_truth{d:D}(ra:Dat s.heap Z a d){Q:Bool→Shared→Prop}(h:∀tk,Q (tD d) {s with toks:=tk}) :wpAny (model prog w) A (truthy a) Q E s:=by cases d with
 | none=>exact O ra.none (fun j0_ j1_ j2_=>h s.toks)
 | bool b=>exact O ra.bool<|wpAny_truthy_bool<|h s.toks
 | int i=>obtain⟨t,rfl⟩:=ra.int;exact PyProof.Rows.truthy_int<|h s.toks
 | str x=>
  refine hidG fun G g=>?_;obtain⟨t,rfl,_,hz⟩:=ra.str;refine g ?_;refine P.truthy_str (fun mvo13=>(Lf [x.length] [Gl .x<|.c 16777216,Gi (.c 9223372036854775808)<|.n .x] rfl hz mvo13)) ?_;have e:((x.length:Int) != 0)=tD (.str x):=by
   show _=(x.cps.size != 0)
   show((x.cps.size:Int) != 0)=_
   cases x.cps.size with
   | zero=>rfl
   | succ n=>rfl
  exact O e<|h _
 | list X=>
  obtain⟨l,vs,n,rfl,hl,hn,R⟩:=ra.list;refine wpAny_truthy_list hl.isList (by refine O List.size_toArray ?_;simp only[Sz]at hn;exact(Ln [vs.length] (.i (.p 1<|.n .x)<|.c 9223372036854775808) [Gl .x<|.c 16777216] rfl hn)) ?_;have e:(!vs.toArray.isEmpty)=tD (.list X):=by cases R <;> rfl
  exact O e<|h _
 | tuple X=>
  obtain⟨l,vs,n,rfl,hl,hn,R,_⟩:=ra.tuple;refine truthy_tuple ⟨_,hl,rfl,_,rfl⟩ (by refine O List.size_toArray ?_;simp only[Sz]at hn;exact(Ln [vs.length] (.i (.p 1<|.n .x)<|.c 9223372036854775808) [Gl .x<|.c 16777216] rfl hn)) ?_;have e:(!vs.toArray.isEmpty)=tD (.tuple X):=by cases R <;> rfl
  exact O e<|h _
 | dict kvs=>
  obtain⟨l,kv,rfl,hd,hn,R⟩:=ra.dict;refine wpAny_truthy_dict (knd:=strKind prog w) hd.1 hd.2 (by simp only[Sz]at hn;exact(Ln [kv.length] (.i (.p 1<|.n .x)<|.c 9223372036854775808) [Gl .x<|.c 16777216] rfl hn)) ?_;have e:(!kv.isEmpty)=tD (.dict kvs):=by cases R <;> rfl
  exact O e<|h _
theorem op_not{d:D}(ra:Dat s.heap Z a d) :wpAny (model prog w) A (unaryOp .Not a) (Op Z s<|.fz<|.bool<|!tD d) E s:=
 not_of (op_truth ra fun tk=>.valT<|.bool _)
theorem op_neg{d e:D}(he:negD d=some e)(ra:Dat s.heap Z a d) :wpAny (model prog w) A (unaryOp .USub a) (Op Z s<|.fz e) E s:=by
 unfold negD at he;refine hidG fun G g=>?_;split at he <;> cases he
 obtain⟨t,rfl⟩:=ra.int;exact g<|PyProof.Rows.neg_int .int
set_option tactic.hygienic true in
theorem seqIndex_of{α:Type}{M:List α}{i:Int}{x:α}(h:idxOf M i=some x) :∃k,seqIndex? i M.length=some k∧M[k]?=some x:=by
 unfold idxOf at h;unfold seqIndex?;split at h
 .rename_i q;refine⟨i.toNat,?_,h⟩;simp only[(if_neg (by exact(fun mvo9=>(linF [] [i] [Gi (.c 0) .x,Gi (.p 1 .x)<|.c 0] rfl q mvo9))) :(if i<0 then i+(M.length:Int) else i)=i)];exact O (if_pos (by simp;exact⟨q,(lin [M.length,i.toNat] [i] 1 (.i (.p 1 .x)<|.n .x) [Gl (.p 1 .y) .x,Gk (.n .y) .x] rfl ((List.getElem?_eq_some_iff.mp h).1)<|Int.toNat_of_nonneg (a:=i) q)⟩)) rfl
 .exact nos h
set_option tactic.hygienic true in
theorem idx_bound{α:Type}{M:List α}{i:Int}{x:α}(h:idxOf M i=some x)(hz:M.length≤Sz) : -(2 ^ 63:Int)≤i∧i<2 ^ 63:=by
 unfold idxOf at h;simp only[Sz]at hz;split at h
 .rename_i q;exact⟨Int.le_trans (by decide) q,Int.lt_trans ((Int.toNat_lt q).mp<|Nat.lt_of_lt_of_le (List.getElem?_eq_some_iff.mp h).1 hz) (by decide)⟩
 .exact nos h
theorem idxT_of{α:Type}{M:List α}{i:Int}{x:α}(h:idxT M i=some x)(hz:M.length≤Sz) :(-(2 ^ 63:Int)≤i∧i<2 ^ 63)∧ ∃k,seqIndex? i M.length=some k∧M[k]?=some x:=by
 unfold idxT at h;by_cases q:i = -1
 .rw[if_pos q]at h;subst q;rw[List.getLast?_eq_getElem?]at h;have hl:=(List.getElem?_eq_some_iff.mp h).1;refine⟨by decide,M.length - 1,?_,h⟩;unfold seqIndex?;have e:(if (-1:Int)<0 then -1+(M.length:Int) else -1)=((M.length - 1:Nat) :Int):=by rw[if_pos (by decide)];omega
  simp only[e];rw[if_pos (by simp;omega)];rfl
 .rw[if_neg q]at h;exact⟨idx_bound h hz,seqIndex_of h⟩
theorem op_getItem{d e r:D}(he:idxD d e=some r)(ra:Dat s.heap Z a d)(rb:Dat s.heap Z b e) :
  ∃T id,s.TypeIs a T∧typeLookup (.type T) "__getitem__"=pure (some (.builtin id))∧wpAny (model prog w) A (getItem a b) (Op Z s (.fz r)) E s:=by
 cases d with
 | list X=>cases e with
  | int i=>
   have he:idxOf X i=some r:=he;obtain⟨l,vs,n,rfl,hl,hn,R⟩:=ra.list;obtain⟨t,rfl⟩:=rb.int;refine⟨_,_,⟨_,hl,rfl⟩,slot_list_getitem.lookup,?_⟩;have hb:=idx_bound he (by refine O R.length.symm ?_;exact hn);unfold idxOf at he;split at he
   .exact ex1 (R.get he) fun v z=>(wpAny_getItem_list hl.isList (by assumption) hb.2 (by simpa using z.1)<|.val z.2)
   .exact nos he
  | _=>exact nos he
 | tuple X=>cases e with
  | int i=>obtain⟨l,vs,n,rfl,hl,hn,R,zl⟩:=ra.tuple;obtain⟨t,rfl⟩:=rb.int;refine⟨_,_,⟨_,hl,rfl⟩,slot_tuple_getitem.lookup,?_⟩;have hT:=idxT_of he (by refine O R.length.symm ?_;exact hn);have hb:=hT.1;exact ex1 hT.2 fun k j=>(ex1 (R.get j.2) fun v Q=>(P.getItem_tuple hl hb.1 hb.2 (by refine O List.size_toArray<|O R.length ?_;exact j.1) (by simpa using Q.1)<|.val Q.2))
  | _=>exact nos he
 | str x=>cases e with
  | int i=>
   refine ex1 (Option.map_eq_some_iff.mp he) fun c J=>?_;obtain rfl:=J.2;obtain⟨t,rfl,ho,hz⟩:=ra.str;obtain⟨u,rfl⟩:=rb.int;have hb:=idx_bound J.1 (by refine O Array.length_toList ?_;exact hz);refine ex1 (seqIndex_of J.1) fun k U=>?_;have hk:=U.1;have hx:=U.2;have hat:Txt.charAt x i=some c:=by
    unfold Txt.charAt;refine O (show seqIndex? i x.length=some k from by rw[Array.length_toList]at hk;exact hk) ?_;show x.cps[k]?=some c
    exact O (Array.getElem?_toList).symm hx
   refine⟨_,_,rfl,slot_str_getitem.lookup,SB.getItem (by show(!(decide (i < -(2 ^ 63:Int))||decide (i≥2 ^ 63)))=true;simp;exact⟨((hb).1),((hb).2)⟩) (by refine O hat ?_;rfl) ?_⟩;have e:Txt.item x i=⟨#[c]⟩:=by unfold Txt.item;refine O hat ?_;rfl
   refine O e ?_;refine .valT<|.str _ _ ?_ (by show 1≤16777216;exact(Ln [] (.w (.c 1)<|.c 16777216) [] rfl));unfold PyData.strOk at ho ⊢;rw[← Array.all_toList,List.all_eq_true]at ho;simpa using ho c (List.mem_of_getElem? hx)
  | _=>exact nos he
 | dict kvs=>cases e with
  | str k=>
   have he:dgetL kvs k=some r:=he;obtain⟨l,kv,rfl,hd,hn,R⟩:=ra.dict;obtain⟨t,rfl,_,_⟩:=rb.str;refine hidG fun G g1=>?_;rcases R.get (k:=k) with⟨h1,h2⟩ | ⟨v,d',h1,h2,rv⟩
   .refine g1 ?_;have he:=h1▸he;exact nos he
   .refine g1 ?_;rw[h1]at he;exact O (sos he).symm<|⟨_,_,hd.2.typeIs,slot_dict_getitem.lookup,wpAny_getItem_of (knd:=strKind prog w) (strKind_is _ _ k t) hd.2.mapOf h2<|.valT rv⟩
  | _=>exact nos he
 | _=>exact nos he
theorem Op.after{r:Rv}{v:Value}{s':Shared}{h₁:Heap}(k:∀b o,s.heap.get? b=some o→h₁.get? b=some o)(p:Op Z {s with heap:=h₁} r v s') :Op Z s r v s':=by
 obtain⟨h',tk,rfl,k',q⟩:=p;refine⟨h',tk,rfl,fun b o e=>k' b o<|k b o e,?_⟩;have old:∀a,h₁.get? a=none→s.heap.get? a=none:=fun a e=>by cases q:s.heap.get? a with
  | none=>rfl
  | some o=>have e:=(k a o q)▸e;exact nomatch e
 cases q with
 | old r=>exact .old r
 | new e e' r=>exact .new (old _ e) e' r
 | ai e r=>exact .ai (old _ e) r
theorem cut_clip{α:Type}(M:List α)(a b:Nat) :(M.drop<|min a M.length).take (min b M.length - min a M.length)=(M.drop a).take (b - a):=by
 rcases Nat.le_total a M.length with h | h
 .rw[Nat.min_eq_left h];rcases Nat.le_total b M.length with h' | h'
  .rw[Nat.min_eq_left h']
  .rw[Nat.min_eq_right h',List.take_of_length_le (by rw[List.length_drop];exact Nat.le_refl _),List.take_of_length_le (by rw[List.length_drop];exact Nat.sub_le_sub_right h' _)]
 .rw[Nat.min_eq_right h,List.drop_eq_nil_of_le<|Nat.le_refl _,List.drop_eq_nil_of_le h,List.take_nil,List.take_nil]
theorem op_slice{d l h:D}{r:Rv}{vl vu:Value}(he:slcD d l h=some r)(ra:Dat s.heap Z a d)(rl:Dat s.heap Z vl l)(rh:Dat s.heap Z vu h) :
  ∃T id,({s with heap:=s.heap.push {cls:=.type "slice",data:=.fields #[vl,vu,.none]}} :Shared).TypeIs a T∧typeLookup (.type T) "__getitem__"=pure (some (.builtin id))∧
   wpAny (model prog w) A (getItem a (.ref s.heap.objs.size)) (Op Z s r) E {s with heap:=s.heap.push {cls:=.type "slice",data:=.fields #[vl,vu,.none]}}:=by
 have L:(∃M, ∃a b:Nat,d = .list M∧l = .int a∧h = .int b∧ .ai (.list<|(M.drop a).take<|b - a)=r)∨ ∃M, ∃k:Nat,d = .tuple M∧l = .int k∧h = .none∧1≤k∧k≤M.length∧ .fz (.tuple<|M.drop k)=r:=by cases d with
  | list X=>cases l with
   | int i=>cases h with
    | int j=>obtain⟨q,rfl⟩:=ifs he;have e:((i.toNat:Nat) :Int)=i:=Int.toNat_of_nonneg q.1;have e':((j.toNat:Nat) :Int)=j:=Int.toNat_of_nonneg<|Int.le_trans q.1 q.2.1;exact .inl ⟨X,i.toNat,j.toNat,rfl,by rw[e],by rw[e'],by rw[Int.toNat_sub'' (Int.le_trans q.1 q.2.1) q.1]⟩
    | _=>exact nos he
   | _=>exact nos he
  | tuple X=>cases X with
   | nil=>exact nos he
   | cons d X=>cases l with
    | int i=>cases h with
     | none=>obtain⟨q,rfl⟩:=ifs he;exact .inr ⟨d::X,1,rfl,q▸rfl,rfl,Nat.le_refl _,Nat.succ_le_succ<|Nat.zero_le _,rfl⟩
     | _=>exact nos he
    | _=>exact nos he
  | _=>exact nos he
 rcases L with⟨M,p,q,rfl,rfl,rfl,rfl⟩ | ⟨M,k,rfl,rfl,rfl,h1,h2,rfl⟩
 .obtain⟨l,vs,n,rfl,hl,hn,R⟩:=ra.list;obtain ⟨t,rfl⟩:=rl.int; obtain ⟨u,rfl⟩:=rh.int;refine ⟨_,_,⟨_,pK _ _ _ hl,rfl⟩,slot_list_getitem.lookup,wpAny_getItem_list_slice (s:= {s with heap:=s.heap.push _}) (IsL.push hl _).isList (Heap.IsSliceOf.new ..) (.int _ _) (.int _ _) .none (fun q=>nomatch q) ?_ (by rw [List.size_toArray,← sz_line]; exact hn)⟩;rw [slicePick_plain];refine .after (h₁:=s.heap.push {cls:=.type "slice",data:=.fields #[.int p t,.int q u,.none]}) (pK _) ?_;show Op _ _ _ _ {s with heap:=Heap.push _ {cls:=_,data:=.seq ((vs.drop (clipAt vs.toArray.size p)).take (clipAt vs.toArray.size q-clipAt vs.toArray.size p)).toArray}}
  have e:(vs.drop<|clipAt vs.toArray.size p).take (clipAt vs.toArray.size q - clipAt vs.toArray.size p)=(vs.drop p).take (q - p):=by rw[clipAt_nat,clipAt_nat,List.size_toArray];exact cut_clip vs p q
  rw[e];exact .newL (((R.drop _).take _).mono (fun a o j0_ e=>pK _ a o e) fun j0_ z=>z) (by rw[List.length_take,List.length_drop];exact Nat.le_trans (Nat.le_trans (Nat.min_le_right _ _)<|Nat.sub_le _ _) hn)
 obtain ⟨l,vs,n,rfl,hl,hn,R,zl⟩:=ra.tuple;obtain ⟨t,rfl⟩:=rl.int;refine O rh.none ?_;refine ⟨_,_,⟨_,pK _ _ _ hl,rfl⟩,slot_tuple_getitem.lookup,PyProof.Rows.getItem_tuple_from (s:= {s with heap:=s.heap.push _}) (a:=k) ⟨_,IsT.push hl _,rfl,_,rfl⟩ (Heap.IsSliceOf.new ..) h1 (by refine O List.size_toArray ?_; rw [R.length]; exact h2) ?_ (by refine O List.size_toArray (O sz_line.symm ?_); exact hn)⟩;exact .after (h₁:=s.heap.push {cls:=.type "slice",data:=.fields #[.int k t,.none,.none]}) (pK _) (.newT ((R.drop k).mono (fun a o j0_ e=>pK _ a o e) fun j0_ z=>z) (by rw [List.length_drop]; exact Nat.le_trans (Nat.sub_le _ _) hn))
end
end Mv
end
section
set_option backward.match.sparseCases false
namespace Mv
open PySem PyProof.Rows
variable [Hp]
noncomputable def tyName:Ty→String
 | .tup=>"tuple" | .int=>"int" | .bool=>"bool" | .str=>"str"
section
variable {A:Around}{E:Value→Shared→Prop}{s:Shared}{Z:Addr→Prop}{a b:Value}
theorem op_len{d:D}{n:Nat}(he:lenD d=some n)(ra:Dat s.heap Z a d) :wpAny (model prog w) A (call (.builtin "len") [a]) (Op Z s (.fz (.int n))) E s:=by
 cases d <;> first | exact nos he | refine O (sos he).symm ?_
 .obtain⟨l,vs,k,rfl,hl,hn,R⟩:=ra.list;simp only[Sz]at hn;refine Calls.call_len_list hl.isList (by refine O List.size_toArray ?_;exact(Ln [vs.length] (.i (.p 1<|.n .x)<|.c 9223372036854775808) [Gl .x<|.c 16777216] rfl hn)) ?_;exact O List.size_toArray<|O R.length .int
 .obtain⟨l,vs,k,rfl,hl,hn,R,_⟩:=ra.tuple;simp only[Sz]at hn;refine P.len_tuple hl (by refine O List.size_toArray ?_;exact(fun mvo15=>(Lf [vs.length] [Gl .x<|.c 16777216,Gi (.c 9223372036854775808)<|.n .x] rfl hn mvo15))) ?_;exact O List.size_toArray<|O R.length .int
theorem op_isi{d:D}(t:Ty)(ra:Dat s.heap Z a d) :wpAny (model prog w) A (call (.builtin "isinstance") [a,.type (tyName t)]) (Op Z s (.fz (.bool (isiD t d)))) E s:=by cases d with
 | none=>obtain rfl:=ra.none;cases t <;> first | exact IsiPair.NoneType_tuple (.valT<|.bool _) | exact IsiPair.NoneType_int (.valT<|.bool _) | exact IsiPair.NoneType_bool (.valT<|.bool _) | exact IsiPair.NoneType_str (.valT<|.bool _) | exact IsiPair.NoneType_list<|.valT<|.bool _
 | bool b=>obtain rfl:=ra.bool;cases t <;> first | exact IsiPair.bool_tuple (.valT<|.bool _) | exact IsiPair.bool_int .bool | exact IsiPair.bool_bool .bool | exact IsiPair.bool_str (.valT<|.bool _) | exact IsiPair.bool_list<|.valT<|.bool _
 | int i=>obtain⟨u,rfl⟩:=ra.int;cases t <;> first | exact IsiPair.int_tuple (.valT<|.bool _) | exact IsiPair.int_int .bool | exact IsiPair.int_bool (.valT<|.bool _) | exact IsiPair.int_str (.valT<|.bool _) | exact IsiPair.int_list<|.valT<|.bool _
 | str x=>obtain⟨u,rfl,_⟩:=ra.str;cases t <;> first | exact IsiPair.str_tuple (.valT<|.bool _) | exact IsiPair.str_int (.valT<|.bool _) | exact IsiPair.str_bool (.valT<|.bool _) | exact IsiPair.str_str .bool | exact IsiPair.str_list<|.valT<|.bool _
 | list X=>obtain⟨l,vs,k,rfl,hl,hn,R⟩:=ra.list;cases t <;> first | exact IsiPair.list_tuple hl rfl (.valT<|.bool _) | exact IsiPair.list_int hl rfl (.valT<|.bool _) | exact IsiPair.list_bool hl rfl (.valT<|.bool _) | exact IsiPair.list_str hl rfl (.valT<|.bool _) | exact IsiPair.list_list hl rfl .bool
 | tuple X=>obtain⟨l,vs,k,rfl,hl,hn,R,_⟩:=ra.tuple;cases t <;> first | exact IsiPair.tuple_tuple hl rfl .bool | exact IsiPair.tuple_int hl rfl (.valT<|.bool _) | exact IsiPair.tuple_bool hl rfl (.valT<|.bool _) | exact IsiPair.tuple_str hl rfl (.valT<|.bool _) | exact IsiPair.tuple_list hl rfl<|.valT<|.bool _
 | dict kvs=>obtain⟨l,kv,rfl,hd,hn,R⟩:=ra.dict;obtain⟨o,_,_,ho,hc,_⟩:=hd.2;cases t <;> first | exact IsiPair.dict_tuple ho hc.1 (.valT<|.bool _) | exact IsiPair.dict_int ho hc.1 (.valT<|.bool _) | exact IsiPair.dict_bool ho hc.1 (.valT<|.bool _) | exact IsiPair.dict_str ho hc.1 (.valT<|.bool _) | exact IsiPair.dict_list ho hc.1<|.valT<|.bool _
theorem op_abs{i:Int}(ra:Dat s.heap Z a (.int i)) :wpAny (model prog w) A (call (.builtin "abs") [a]) (Op Z s (.fz (.int i.natAbs))) E s:=by
 obtain⟨u,rfl⟩:=ra.int;refine call_abs_int fun u tk=>?_;have e:(if i<0 then -i else i)=((i.natAbs:Nat) :Int):=by split <;> (first | exact(Int.le_antisymm (lin [i.natAbs] [i] 1 (.i (.g .x)<|.n .x) [Gk (.n .x)<|.g .x] rfl<|Int.ofNat_natAbs_of_nonpos (a:=i)<|Li [i] (.i .x<|.c 0) [Gi (.p 1 .x)<|.c 0] rfl ‹i<(0:Int)›)<|lin [i.natAbs] [i] 1 (.i (.n .x)<|.g .x) [Gj (.n .x)<|.g .x] rfl<|Int.ofNat_natAbs_of_nonpos (a:=i)<|Li [i] (.i .x<|.c 0) [Gi (.p 1 .x)<|.c 0] rfl ‹i<(0:Int)›) | exact(Int.le_antisymm (lin [i.natAbs] [i] 1 (.i .x<|.n .x) [Gk (.n .x) .x] rfl<|Int.natAbs_of_nonneg (a:=i)<|Int.not_lt.mp ‹¬i<(0:Int)›)<|lin [i.natAbs] [i] 1 (.i (.n .x) .x) [Gj (.n .x) .x] rfl<|Int.natAbs_of_nonneg (a:=i)<|Int.not_lt.mp ‹¬i<(0:Int)›))
 exact O e .int
theorem op_intb{b':Bool}(ra:Dat s.heap Z a (.bool b')) :wpAny (model prog w) A (call (.type "int") [a]) (Op Z s (.fz (.int (if b' then 1 else 0)))) E s:=by exact O ra.bool (call_int_bool .int)
theorem op_tupleL{X:aB}(ra:Dat s.heap Z a (.list X)) :wpAny (model prog w) A (call (.type "tuple") [a]) (Op Z s (.fz (.tuple X))) E s:=by obtain⟨l,vs,k,rfl,hl,hn,R⟩:=ra.list;refine call_tuple_list hl.isList (fun h' hk=>?_) (by refine O List.size_toArray (O sz_line.symm ?_);exact hn);exact .after (h₁:=h') hk (.newT (R.mono (fun a o j0_ e=>hk a o e) fun j0_ z=>z) hn)
theorem op_tupleT{X:aB}(ra:Dat s.heap Z a (.tuple X)) :wpAny (model prog w) A (call (.type "tuple") [a]) (Op Z s (.fz (.tuple X))) E s:=by obtain⟨l,vs,k,rfl,hl,hn,R,zl⟩:=ra.tuple;exact call_tuple_same ⟨_,hl,rfl,_,rfl⟩ (.val (.tuple zl hl hn R))
theorem op_str{n:Nat}{r:Rv}(he:biD .str [.int (.ofNat n)]=some r)(ra:Dat s.heap Z a (.int (.ofNat n))) :wpAny (model prog w) A (call (.type "str") [a]) (Op Z s r) E s:=by
 obtain⟨t,rfl⟩:=ra.int;obtain⟨h,rfl⟩:=ifs (r:=r) (show(if n<10 ^ 18∧(natS n).length≤20 then some (Rv.fz<|.str ⟨(natS n).toArray⟩) else none)=some r from he);refine PySem.P.str_of_int ?_ ?_
 .show n.log2<_
  by_cases q:n=0
  .rw[q];decide
  .exact Nat.lt_of_lt_of_le ((Nat.log2_lt q).mpr<|Nat.lt_of_lt_of_le h.1 (show 10 ^ 18≤2 ^ 60 by decide)) (by decide)
 .have e:(Str.ofString<|toString<|Int.ofNat n)=⟨(natS n).toArray⟩:=by
   have:=PySem.W.KIN.signs_num n;generalize Str.ofString (toString<|Int.ofNat n)=x at this;obtain⟨⟨l⟩⟩:=x;exact congrArg (fun l=>(⟨⟨l⟩⟩ :Str)) this
  refine O e<|.valT<|.str _ _ ?_ (by show(natS n).length≤_;exact Nat.le_trans h.2 (by decide));unfold PyData.strOk;rw[← Array.all_toList,List.all_eq_true];intro c hc;obtain⟨ch,_,rfl⟩:=List.mem_map.mp hc;exact decide_eq_true (by(have:=ch.valid;rcases this with h | h;· exact Nat.lt_trans h (by decide));· exact h.2)
theorem op_listS{X:aB}(ra:Dat s.heap Z a (.tuple X)) :wpAny (model prog w) A (call (.type "list") [a]) (Op Z s (.ai (.list X))) E s:=by obtain⟨l,vs,k,rfl,hl,hn,R,_⟩:=ra.tuple;exact call_list_seq l (.inr rfl) hl rfl rfl (fun h' c' hk hD=>⟨h',s.toks,rfl,hk,.ai (hN0 _) (.list hD hn (R.mono (fun a o j0_ e=>hk a o e) fun j0_ z=>z))⟩) (by refine O List.size_toArray (O sz_line.symm ?_);exact hn)
theorem strs_has:∀{M:aB}{bs:ax},strsOf M=some bs→M=bs.map PyData.str:=by intro M;induction M with
 | nil=>intro bs h;obtain rfl:=sos h;rfl
 | cons x M ih=>intro bs h;cases x with
  | str b=>obtain⟨r,hr,rfl⟩:=Option.map_eq_some_iff.mp (show(strsOf M).map (b :: ·)=some bs from h);exact congrArg (_ :: ·)<|ih hr
  | _=>exact nos h
theorem strs_are{h:Heap}{vs:ay}{bs:ax}(R:RepAll h Z vs (bs.map PyData.str)) :StrsAre vs bs:=by induction bs generalizing vs with
 | nil=>cases R;exact .nil
 | cons b bs ih=>cases R with
  | cons a r=>obtain⟨t,rfl,_⟩:=(Rep.dat a).str;exact .cons b t<|ih r
theorem count_strs(b:Str) :∀bs:ax,PySem.Spec.countIn (.str b) (bs.map PyData.str)=((bs.count b:Nat) :Int):=by intro bs;induction bs with
 | nil=>exact rfl
 | cons x bs ih=>
  refine O List.map_cons<|O List.count_cons ?_;show(if PySem.Spec.same (.str x) (.str b) then 1 else 0)+PySem.Spec.countIn (.str b) (bs.map PyData.str)=_
  refine O ih<|O (show PySem.Spec.same (.str x) (.str b)=(x==b) from rfl) ?_;cases x==b with
  | true=>exact Int.add_comm _ _
  | false=>exact Int.zero_add _
theorem op_count{M:aB}{bs:ax}{k:Str}(he:strsOf M=some bs)(ra:Dat s.heap Z a (.list M))(rb:Dat s.heap Z b (.str k)) :
  wpAny (model prog w) A (call (.builtin "list.count") [a,b]) (Op Z s (.fz (.int (bs.count k:Nat)))) E s:=by
 obtain rfl:=strs_has he;obtain⟨l,vs,n,rfl,hl,hn,R⟩:=ra.list;obtain⟨t,rfl,_⟩:=rb.str;refine PyProof.Rows.count_list_strs hl.isList (strs_are R) ?_;rw[count_strs];exact .int
end
end Mv
end
section
set_option backward.match.sparseCases false
namespace Mv
open PySem PyProof.Rows
section
variable {prog:Program}{w:World}{A:Around}{E:Value→Shared→Prop}{s:Shared}
theorem stop_it{α:Type}{Q:α→Shared→Prop}(hh:A.handled=none)(hE:∀h' e,(∀b o,s.heap.get? b=some o→h'.get? b=some o)→(∃o,h'.get? e=some o∧o.cls=.type "StopIteration")→E (.ref e) {s with heap:=h'}) :wpAny (model prog w) A (Builtin.SmallTypes.stopIteration:Sem α) Q E s:=by
 show wpAny _ _ (newExc (.type "StopIteration") [] >>= _) _ _ _
 refine wpAny_bind ?_;simp only[newExc,newTuple];refine wpAny_bind<|wpAny_newObj_type ?_ (by size_fits);refine wpAny_bind (m:=firstArgMember _ _)<|wpAny_of_eq (a:=Value.none) (by first | rfl | (simp only[firstArgMember];rfl)) ?_;refine wpAny_newObj_type ?_ (by size_fits);simp only[raiseNew];refine wpAny_bind<|wpAny_handled ?_;rw[hh];exact wpAny_bind<|wpAny_pure<|wpAny_throw<|hE _ _ (fun b o e=>Heap.get?_push_of_some _<|Heap.get?_push_of_some _ e) ⟨_,Heap.get?_push_size _ rfl,rfl⟩
theorem nextOf_tup{it t:Addr}{i:Nat}{items:Array Value}{x:Value}{Q:Value→Shared→Prop}(hit:s.heap.IsTupleIter it t i)(ht:s.heap.IsTuple t items)(hx:items[i]?=some x)
  (hQ:∀h',h'.IsTupleIter it t (i+1)→Heap.SameBut it s.heap h'→Q x {s with heap:=h'}) :wpAny (model prog w) A (Builtin.SmallTypes.nextOf<|.ref it) Q E s:=by
 obtain ⟨o,q⟩:=id hit;obtain ⟨ol,hol,_,nl,hdl⟩:=ht;unfold Builtin.SmallTypes.nextOf;refine wpAny_bind (wpAny_callSpecial?_slot (name:=Str.ofString "__next__") hit.typeIs F.slot_tuple_iterator_next (wpAny_call_entry F.slot_tuple_iterator_next hit.typeIs F.entry_tuple_iterator_next ?_ (F.args_tuple_iterator_next_1 _)));show wpAny _ _ (field (.ref it) 0 >>= _) _ _ s
 refine wpAny_bind<|wpAny_field q.1 q.2.2 (x:=.ref t) rfl ?_;refine wpAny_ite_false rfl ?_;refine wpAny_bind<|wpAny_field q.1 q.2.2 (x:=.int i 0) rfl ?_;refine wpAny_bind<|wpAny_seqItems hol hdl ?_;simp only[Int.toNat_natCast,hx];refine wpAny_bind<|wpAny_setField q.1 q.2.2 (by simp)<|wpAny_pure ⟨x,rfl,wpAny_pure<|hQ _ ?_<|Heap.SameBut.update ..⟩;exact⟨_,Heap.get?_update_self _ q.1<|Obj.isFreed_of_fields<|Obj.data_mapFields q.2.2 _,(Obj.cls_mapFields ..).trans q.2.1,by rw[Obj.data_mapFields q.2.2];simp[rawInt]⟩
theorem nextOf_tupE{it t:Addr}{i:Nat}{items:Array Value}{Q:Value→Shared→Prop}(hh:A.handled=none)(hit:s.heap.IsTupleIter it t i)(ht:s.heap.IsTuple t items)(hx:items[i]?=none)
  (hE:∀h' e,Heap.ExtBut it s.heap h'→(∃o,h'.get? e=some o∧o.cls=.type "StopIteration")→E (.ref e) {s with heap:=h'}) :wpAny (model prog w) A (Builtin.SmallTypes.nextOf (.ref it)) Q E s:=by
 obtain ⟨o,ho,hc,hd⟩:=id hit;obtain ⟨ol,hol,_,nl,hdl⟩:=ht;unfold Builtin.SmallTypes.nextOf;refine wpAny_bind (wpAny_callSpecial?_slot (name:=Str.ofString "__next__") hit.typeIs F.slot_tuple_iterator_next (wpAny_call_entry F.slot_tuple_iterator_next hit.typeIs F.entry_tuple_iterator_next ?_ (F.args_tuple_iterator_next_1 _)));show wpAny _ _ (field (.ref it) 0 >>= _) _ _ s
 refine wpAny_bind<|wpAny_field ho hd (x:=.ref t) rfl ?_;show wpAny _ _ (if (Value.ref t==Value.none)=true then _ else _) _ _ s
 refine wpAny_ite_false rfl ?_;show wpAny _ _ (field (.ref it) 1 >>= _) _ _ s
 refine wpAny_bind<|wpAny_field ho hd (x:=.int i 0) rfl ?_;show wpAny _ _ (seqItems? (.ref t) >>= _) _ _ s
 refine wpAny_bind<|wpAny_seqItems hol hdl ?_;simp only[Int.toNat_natCast,hx];exact wpAny_bind<|wpAny_rule<|wpAny_bind<|wpAny_setField ho hd (by simp)<|stop_it hh fun h' e k x=>hE h' e (fun b o n q=>k b o<|(Heap.SameBut.update ..).extBut b o n q) x
noncomputable def ItS(h:Heap)(it l:Addr)(M:Array Value)(k:Nat) :Bool→Prop
 | false=>h.IsTupleIter it l k∧h.IsTuple l M
 | true=>h.IsListIter it l k∧h.IsList l M
variable {h h':Heap}{it l z TI TO i1 i2 l1 l2:Addr}{M ys:Array Value}{k:Nat}{v x y:Value}{b b2:Bool}
theorem ItS.at(x:ItS h it l M k b)(q1:∀o,h.get? it=some o→h'.get? it=some o)(q2:∀o,h.get? l=some o→h'.get? l=some o) :ItS h' it l M k b:=by cases b with
 | false=>obtain⟨⟨o,e,r⟩,o',e',r'⟩:=x;exact⟨⟨o,q1 o e,r⟩,o',q2 o' e',r'⟩
 | true=>obtain⟨⟨o,e,r⟩,o',e',r'⟩:=x;exact⟨⟨o,q1 o e,r⟩,o',q2 o' e',r'⟩
theorem next_it{Q:Value→Shared→Prop}(x:ItS s.heap it l M k b)(hne:l≠it)(hx:M[k]?=some v)
  (hQ:∀h',ItS h' it l M (k+1) b→Heap.SameBut it s.heap h'→Q v {s with heap:=h'}) :wpAny (model prog w) A (Builtin.SmallTypes.nextOf<|.ref it) Q E s:=by
 cases b with
 | false=>exact nextOf_tup x.1 x.2 hx fun h' a sb=>hQ h' ⟨a,x.2.extBut sb.extBut hne⟩ sb
 | true=>exact wpAny_nextOf_list_item x.1 x.2 hx fun h' a sb=>hQ h' ⟨a,x.2.extBut sb.extBut hne⟩ sb
theorem next_itE{Q:Value→Shared→Prop}(hh:A.handled=none)(x:ItS s.heap it l M k b)(hx:M[k]?=none)
  (hE:∀h' e,Heap.ExtBut it s.heap h'→(∃o,h'.get? e=some o∧o.cls=.type "StopIteration")→E (.ref e) {s with heap:=h'}) :wpAny (model prog w) A (Builtin.SmallTypes.nextOf (.ref it)) Q E s:=by
 cases b with
 | false=>exact nextOf_tupE hh x.1 x.2 hx hE
 | true=>exact wpAny_nextOf_list_end hh x.1 x.2 hx hE
noncomputable abbrev zO(f0 f1:Value)(TI TO:Addr) :Obj:= {cls:=.type "zip",dict:=none,data:=.fields #[f0,f1,.bool false,.ref TI,.ref TO],slots:=#[]}
inductive ZF(h:Heap) :Value→Value→Prop
 | new:ZF h .none (.bool false)
 | ak {T:Addr} {o:Obj} {c:Bool} :h.get? T=some o→ZF h (rawInt T) (.bool c)
inductive ZSt(z TI TO i1 i2 l1 l2:Addr)(M ys:Array Value)(k:Nat)(b b2:Bool)(h:Heap) :Prop
 | mk (f0 f1 u v:Value) :h.get? z=some (zO f0 f1 TI TO)→ZF h f0 f1→IsPair h TI (.ref i1) (.ref i2)→IsPair h TO u v→ItS h i1 l1 M k b→ItS h i2 l2 ys k b2→ZSt z TI TO i1 i2 l1 l2 M ys k b b2 h
theorem ZSt.at(D:ZSt z TI TO i1 i2 l1 l2 M ys k b b2 h)(q:∀c o,h.get? c=some o→h'.get? c=some o) :ZSt z TI TO i1 i2 l1 l2 M ys k b b2 h':=by obtain⟨f0,f1,u,v,hz,hf,hTI,hTO,h1,h2⟩:=D;refine⟨f0,f1,u,v,q _ _ hz,?_,q _ _ hTI,q _ _ hTO,h1.at (q _)<|q _,h2.at (q _)<|q _⟩;cases hf with
 | new=>exact .new
 | ak e=>exact .ak<|q _ _ e
theorem ZSt.ty{s:Shared}(D:ZSt z TI TO i1 i2 l1 l2 M ys k b b2 s.heap) :s.TypeIs (.ref z) "zip":=by obtain⟨f0,f1,u,v,hz,_⟩:=D;exact⟨_,hz,rfl⟩
theorem ex_at{T z:Addr}(q:T=z)(e:∃o,h.get? z=some o) :∃o,h.get? T=some o:=q▸e
theorem ItS.live(x:ItS h it l M k b) :∃o,h.get? it=some o:=by cases b with
 | false=>obtain⟨⟨o,e,_⟩,_⟩:=x;exact⟨o,e⟩
 | true=>obtain⟨⟨o,e,_⟩,_⟩:=x;exact⟨o,e⟩
theorem ZSt.but{d:Addr}(D:ZSt z TI TO i1 i2 l1 l2 M ys k b b2 h)(nd:d∉ [z,TI,TO,i1,i2,l1,l2])(q:∀c o,c≠d→h.get? c=some o→h'.get? c=some o)(hd:∃o,h'.get? d=some o) :ZSt z TI TO i1 i2 l1 l2 M ys k b b2 h':=by obtain⟨f0,f1,u,v,hz,hf,hTI,hTO,h1,h2⟩:=D;have n:∀c∈ [z,TI,TO,i1,i2,l1,l2], ∀o,h.get? c=some o→h'.get? c=some o:=fun c hc o=>q c o fun e=>nd<|e▸hc;refine⟨f0,f1,u,v,n _ (by simp) _ hz,?_,n _ (by simp) _ hTI,n _ (by simp) _ hTO,h1.at (n _ (by simp))<|n _ (by simp),h2.at (n _ (by simp))<|n _ (by simp)⟩;cases hf with
 | new=>exact .new
 | @ak T o c e=>
  by_cases g:T=d
  .obtain⟨o',hd⟩:=ex_at g hd;exact .ak hd
  .exact .ak (q _ _ g e)
theorem zo_free{f0 f1:Value}{Q:Bool→Shared→Prop}(hz:s.heap.get? z=some (zO f0 f1 TI TO))(hf:ZF s.heap f0 f1)
  (hn:f0 = .none→f1 = .bool false→Q true s) (ho:∀h' (T:Addr) o,f0=rawInt T→h'.get? z=some (zO f0 (.bool true) TI TO)→s.heap.get? T=some o→(f1 = .bool true∧h'=s.heap∨f1 = .bool false∧Heap.SameBut z s.heap h')→Q false {s with heap:=h'}) :
  wpAny (model prog w) A (Builtin.SmallTypes.ownedTupleIsFree<|.ref z) Q E s:=by
 unfold Builtin.SmallTypes.ownedTupleIsFree;cases hf with
 | new=>exact wpAny_bind<|wpAny_field hz rfl (x:=.none) rfl<|wpAny_pure<|hn rfl rfl
 | @ak T o c e=>
  refine wpAny_bind<|wpAny_field hz rfl (x:=rawInt T) rfl ?_;have al:∀{Q:Option Obj→Shared→Prop},Q (some o) s→wpAny (model prog w) A (loadIfAlive T) Q E s:=fun {Q} hq=>by
   have h':Q (s.heap.get? T) s:=by rw[e];exact hq
   exact fun j0_ j1_ j2_=>h'
  refine wpAny_bind<|al ?_;refine wpAny_ite_false rfl ?_;refine wpAny_bind<|wpAny_field hz rfl (x:=.bool c) rfl ?_;cases c with
  | true=>refine wpAny_ite_false rfl ?_;exact wpAny_pure<|ho s.heap T o rfl hz e<|.inl ⟨rfl,rfl⟩
  | false=>refine wpAny_ite_true rfl ?_;exact wpAny_bind<|wpAny_setField_rec hz (by simp) fun h' a sb=>wpAny_pure<|ho h' T o rfl a e<|.inr ⟨rfl,sb⟩
theorem next_any{Q:Value→Shared→Prop}(hh:A.handled=none)(x:ItS s.heap it l M k b)(hne:l≠it)(hQ:∀v h',M[k]?=some v→ItS h' it l M (k+1) b→Heap.SameBut it s.heap h'→Q v {s with heap:=h'})
  (hE:M[k]?=none→ ∀h' e,Heap.ExtBut it s.heap h'→(∃o,h'.get? e=some o∧o.cls=.type "StopIteration")→E (.ref e) {s with heap:=h'}) :wpAny (model prog w) A (Builtin.SmallTypes.nextOf (.ref it)) Q E s:=by
 cases q:M[k]? with
 | none=>exact next_itE hh x q<|hE q
 | some v=>exact next_it x hne q fun h' a sb=>hQ v h' q a sb
theorem z_next{Q:Value→Shared→Prop}(hh:A.handled=none)(D:ZipApart z TI TO i1 i2 l1 l2)(S:ZSt z TI TO i1 i2 l1 l2 M ys k b b2 s.heap)
  (hQ:∀x y,M[k]?=some x→ys[k]?=some y→ ∀h' T,s.heap.get? T=none→ZSt z TI TO i1 i2 l1 l2 M ys (k+1) b b2 h'→IsPair h' T x y→
   (∀c o,c≠z→c≠TO→c≠i1→c≠i2→s.heap.get? c=some o→h'.get? c=some o)→(IsZip s.heap z TI TO .none→IsZip h' z TI TO (rawInt T))→Q (.ref T) {s with heap:=h'})
  (hE:(M[k]?=none∨ys[k]?=none)→ ∀h' e,(∀c o,c≠z→c≠TO→c≠i1→c≠i2→s.heap.get? c=some o→h'.get? c=some o)→(∃o,h'.get? e=some o∧o.cls=.type "StopIteration")→E (.ref e) {s with heap:=h'}) :
  wpAny (model prog w) A (Builtin.«zip.__next__» ⟨[.ref z],[]⟩) (fun fin s'=> ∃v,fin = .done (.ret v)∧Q v s') E s:=by
 obtain⟨f0,f1,u,v,hz,hf,hTI,hTO,h1,h2⟩:=S;show wpAny _ _ (field (.ref z) 2 >>= _) _ _ _
 refine wpAny_bind<|wpAny_field hz rfl (x:=.bool false) rfl ?_;refine wpAny_bind<|wpAny_field hz rfl (x:=.ref TI) rfl ?_;refine wpAny_bind<|wpAny_seqItems hTI rfl ?_;refine wpAny_bind<|zo_free hz hf (fun e0 e1=>?_) fun h₁ T o e0 hz₁ hT hor=>?_
 .subst e0 e1;refine wpAny_ite_true rfl ?_;refine wpAny_bind (wpAny_rule ?_);refine wpAny_bind (wpAny_field hz rfl (x:=.ref TO) rfl ?_);refine wpAny_bind (wpAny_setField_rec hz (by simp) fun h₁ hz₁ hs₁=>?_);replace hz₁:IsZip h₁ z TI TO .ellipsis:=hz₁;have fin:(M[k]?=none∨ys[k]?=none)→ ∀ {h₂:Heap} {e:Addr},(∀c o,c≠z→c≠TO→c≠i1→c≠i2→h₁.get? c=some o→h₂.get? c=some o)→IsZip h₂ z TI TO .ellipsis→(∃o,h₂.get? e=some o∧o.cls=.type "StopIteration")→wpAny (model prog w) A (setField (.ref z) 0 .none) (fun j0_ s'=>E (.ref e) s') E {s with heap:=h₂}:=fun hn {h₂ e} k hz₂ he=>by
   obtain⟨oe,hoe,hce⟩:=he;have hez:e≠z:=fun x=>by subst x;rw[hz₂]at hoe;injection hoe with hoe;subst hoe;simp at hce
   exact wpAny_setField_rec hz₂ (by simp) fun h₃ j0_ hs₃=>hE hn h₃ e (fun c o c1 c2 c3 c4 x=>hs₃.extBut _ _ c1<|k c o c1 c2 c3 c4<|hs₁.extBut _ _ c1 x) ⟨oe,hs₃.extBut _ _ hez hoe,hce⟩
  refine wpAny_bind ?_;simp only[List.zipIdx_cons,List.zipIdx_nil,List.forIn_cons,List.forIn_nil];refine wpAny_bind<|wpAny_bind<|wpAny_onRaise ?_;refine wpAny_bind<|next_any hh (h1.at (fun o=>hs₁.extBut _ o D.i1z) (fun o=>hs₁.extBut _ o D.l1z)) D.l1i1 (fun x h₂ hx h1₂ hs₂=>wpAny_pure ?_) fun hn h₂ e hs₂ he=>fin (.inl hn) (fun c o j0_ j1_ c3 j2_ x=>hs₂ _ _ c3 x) (hs₂ _ _ D.i1z.symm hz₁) he;refine wpAny_bind<|wpAny_seqItems (hs₂.extBut _ _ D.TOi1<|hs₁.extBut _ _ D.TOz hTO) rfl ?_;refine wpAny_bind<|wpAny_updateSeq_pair (hs₂.extBut _ _ D.TOi1<|hs₁.extBut _ _ D.TOz hTO) fun h₃ hTO₃ hs₃=>?_;replace hTO₃:IsPair h₃ TO x v:=hTO₃;refine wpAny_bind<|wpAny_letGo<|wpAny_pure ?_;refine wpAny_bind<|wpAny_bind<|wpAny_onRaise ?_;have k3:∀c o,c≠z→c≠i1→c≠TO→s.heap.get? c=some o→h₃.get? c=some o:=fun c o c1 c2 c3 e=>hs₃.extBut _ _ c3<|hs₂.extBut _ _ c2<|hs₁.extBut _ _ c1 e;refine wpAny_bind<|next_any hh (h2.at (fun o e=>k3 _ o D.i2z D.i12.symm D.TOi2.symm e) fun o e=>k3 _ o D.l2z D.l2i1 D.l2TO e) D.l2i2 (fun y h₄ hy h2₄ hs₄=>wpAny_pure ?_) fun hn h₄ e hs₄ he=>fin (.inr hn) (fun c o j0_ c2 c3 c4 x=>hs₄ _ _ c4<|hs₃.extBut _ _ c2<|hs₂.extBut _ _ c3 x) (hs₄ _ _ D.i2z.symm<|hs₃.extBut _ _ D.TOz.symm<|hs₂.extBut _ _ D.i1z.symm hz₁) he;refine wpAny_bind<|wpAny_seqItems (hs₄.extBut _ _ D.TOi2 hTO₃) rfl ?_;refine wpAny_bind<|wpAny_updateSeq_pair (hs₄.extBut _ _ D.TOi2 hTO₃) fun h₅ hTO₅ hs₅=>?_;replace hTO₅:IsPair h₅ TO x y:=hTO₅;refine wpAny_bind<|wpAny_letGo<|wpAny_pure<|wpAny_pure ?_;refine wpAny_bind<|wpAny_seqItems hTO₅ rfl ?_;refine wpAny_bind<|wpAny_newTuple ?_;have hsz:h₅.objs.size=s.heap.objs.size:=by rw[hs₅.1,hs₄.1,hs₃.1,hs₂.1,hs₁.1]
  have hz₅:=hs₅.extBut _ _ D.TOz.symm (hs₄.extBut _ _ D.i2z.symm (hs₃.extBut _ _ D.TOz.symm (hs₂.extBut _ _ D.i1z.symm hz₁)));have k5:∀c o,c≠z→c≠TO→c≠i1→c≠i2→s.heap.get? c=some o→h₅.get? c=some o:=fun c o c1 c2 c3 c4 e=>hs₅.extBut _ _ c2 (hs₄.extBut _ _ c4 (k3 c o c1 c3 c2 e));refine wpAny_bind ?_;unfold Builtin.SmallTypes.ownedTupleHandOut;have hz₆:IsZip (h₅.push {cls:=.type "tuple",data:=.seq #[x,y]}) z TI TO .ellipsis:=Heap.get?_push_of_some _ hz₅;refine wpAny_bind (wpAny_setField_rec hz₆ (by simp) fun h₇ hz₇ hs₇=>?_);refine wpAny_setField_rec hz₇ (by simp) fun h₈ hz₈ hs₈=>?_;replace hz₈:IsZip h₈ z TI TO (rawInt h₅.objs.size):=hz₈;have up:∀c o,c≠z→h₅.get? c=some o→h₈.get? c=some o:=fun c o c1 e=>hs₈.extBut _ _ c1 (hs₇.extBut _ _ c1 (Heap.get?_push_of_some _ e));have zne:=Nat.ne_of_gt (Heap.lt_size hz₅);have hT₈:=hs₈.extBut _ _ zne (hs₇.extBut _ _ zne (Heap.get?_push_size _ rfl));refine wpAny_pure ⟨_,rfl,?_⟩;have kk:∀c o,c≠z→c≠TO→c≠i1→c≠i2→s.heap.get? c=some o→h₈.get? c=some o:=fun c o c1 c2 c3 c4 e=>up c o c1 (k5 c o c1 c2 c3 c4 e);exact hQ x y hx hy h₈ _ (by rw[hsz];exact Heap.get?_none_of_le (Nat.le_refl _)) ⟨_,_,x,y,hz₈,.ak hT₈,kk _ _ D.TIz D.TITO D.TIi1 D.TIi2 hTI,up _ _ D.TOz hTO₅,h1₂.at (fun o e=>up _ o D.i1z (hs₅.extBut _ _ D.TOi1.symm (hs₄.extBut _ _ D.i12 (hs₃.extBut _ _ D.TOi1.symm e)))) (fun o e=>up _ o D.l1z (hs₅.extBut _ _ D.l1TO (hs₄.extBut _ _ D.l1i2 (hs₃.extBut _ _ D.l1TO e)))),h2₄.at (fun o e=>up _ o D.i2z (hs₅.extBut _ _ D.TOi2.symm e)) (fun o e=>up _ o D.l2z (hs₅.extBut _ _ D.l2TO e))⟩ hT₈ kk fun j0_=>hz₈
 .have k1:∀c o,c≠z→s.heap.get? c=some o→h₁.get? c=some o:=fun c o c1 e=>by
   rcases hor with⟨_,rfl⟩ | ⟨_,sb⟩
   .exact e
   .exact sb.extBut _ _ c1 e
  have hsz1:h₁.objs.size=s.heap.objs.size:=by
   rcases hor with⟨_,rfl⟩ | ⟨_,sb⟩
   .rfl
   .exact sb.1
  subst e0;refine wpAny_ite_false rfl ?_;refine wpAny_bind ?_;rw[← Array.forIn_toList];simp only[List.forIn_cons,List.forIn_nil];refine wpAny_bind<|wpAny_bind<|wpAny_holding ?_;refine wpAny_bind<|next_any (s:= {s with heap:=h₁}) hh (h1.at (fun o=>k1 _ o D.i1z) (fun o=>k1 _ o D.l1z)) D.l1i1 (fun x h₂ hx h1₂ hs₂=>wpAny_pure<|wpAny_pure ?_) fun hn h₂ e hs₂ he=>hE (.inl hn) h₂ e (fun c o c1 j0_ c3 j1_ x=>hs₂ _ _ c3<|k1 c o c1 x) he;refine wpAny_bind<|wpAny_bind<|wpAny_holding ?_;have k2:∀c o,c≠z→c≠i1→s.heap.get? c=some o→h₂.get? c=some o:=fun c o c1 c2 e=>hs₂.extBut _ _ c2<|k1 c o c1 e;refine wpAny_bind<|next_any (s:= {s with heap:=h₂}) hh (h2.at (fun o e=>k2 _ o D.i2z D.i12.symm e) fun o e=>k2 _ o D.l2z D.l2i1 e) D.l2i2 (fun y h₃ hy h2₃ hs₃=>wpAny_pure<|wpAny_pure<|wpAny_pure ?_) fun hn h₃ e hs₃ he=>hE (.inr hn) h₃ e (fun c o c1 j0_ c3 c4 x=>hs₃ _ _ c4<|k2 c o c1 c3 x) he;show wpAny _ _ (newTuple [x,y] >>= _) _ _ _
  refine wpAny_bind<|wpAny_newTuple<|wpAny_pure ⟨_,rfl,?_⟩;have hsz:h₃.objs.size=s.heap.objs.size:=by rw[hs₃.1,hs₂.1,hsz1]
  have P:∀ {c:Addr} {o:Obj},h₃.get? c=some o→(h₃.push {cls:=.type "tuple",data:=.seq #[x,y]}).get? c=some o:=fun e=>Heap.get?_push_of_some _ e;have kk:∀c o,c≠z→c≠i1→c≠i2→s.heap.get? c=some o→h₃.get? c=some o:=fun c o c1 c2 c3 e=>hs₃.extBut _ _ c3 (k2 c o c1 c2 e);have hT₈:IsPair (h₃.push {cls:=.type "tuple",data:=.seq #[x,y]}) h₃.objs.size x y:=Heap.get?_push_size _ rfl;have hT₃:∃o,h₃.get? T=some o:=by
   by_cases q1:T=i1
   .obtain⟨o,e⟩:=h1₂.live;exact⟨o,q1▸hs₃.extBut _ _ D.i12 e⟩
   by_cases q2:T=i2
   .exact q2▸h2₃.live
   by_cases q3:T=z
   .exact ex_at q3 ⟨_,(hs₃.extBut _ _ D.i2z.symm<|hs₂.extBut _ _ D.i1z.symm hz₁)⟩
   exact⟨o,kk T o q3 q1 q2 hT⟩
  obtain⟨oT,hT₃⟩:=hT₃;exact hQ x y hx hy _ _ (by rw[hsz];exact Heap.get?_none_of_le<|Nat.le_refl _) ⟨_,_,u,v,P<|hs₃.extBut _ _ D.i2z.symm<|hs₂.extBut _ _ D.i1z.symm hz₁,.ak<|P hT₃,P<|kk _ _ D.TIz D.TIi1 D.TIi2 hTI,P<|kk _ _ D.TOz D.TOi1 D.TOi2 hTO,h1₂.at (fun o e=>P<|hs₃.extBut _ _ D.i12 e) (fun o e=>P<|hs₃.extBut _ _ D.l1i2 e),h2₃.at (fun o e=>P e) (fun o e=>P e)⟩ hT₈ (fun c o c1 j0_ c3 c4 e=>P<|kk c o c1 c3 c4 e) fun q=>by have q:=congrArg Obj.data<|Option.some.inj<|hz.symm.trans q;exact nomatch q
theorem zNext{Q:Option Value→Shared→Prop}(hh:A.handled=none)(D:ZipApart z TI TO i1 i2 l1 l2)(S:ZSt z TI TO i1 i2 l1 l2 M ys k b b2 s.heap)
  (hQ:∀x y,M[k]?=some x→ys[k]?=some y→ ∀h' T,s.heap.get? T=none→ZSt z TI TO i1 i2 l1 l2 M ys (k+1) b b2 h'→IsPair h' T x y→
   (∀c o,c≠z→c≠TO→c≠i1→c≠i2→s.heap.get? c=some o→h'.get? c=some o)→(IsZip s.heap z TI TO .none→IsZip h' z TI TO (rawInt T))→Q (some<|.ref T) {s with heap:=h'})
  (hE:(M[k]?=none∨ys[k]?=none)→ ∀h',(∀c o,c≠z→c≠TO→c≠i1→c≠i2→s.heap.get? c=some o→h'.get? c=some o)→Q none {s with heap:=h'}) :
  wpAny (model prog w) A (pyNext<|.ref z) Q E s:=by
 unfold pyNext;refine wpAny_bind (wpAny_attempt (wpAny_callSpecial?_slot (name:=Str.ofString "__next__") S.ty F.slot_zip_next (wpAny_call_entry F.slot_zip_next S.ty F.entry_zip_next (z_next hh D S (fun x y hx hy h' T a0 a1 a2 a3 a4=>wpAny_pure (hQ x y hx hy h' T a0 a1 a2 a3 a4)) fun hn h' e hk he=>?_) (F.args_zip_next_1 _))));obtain ⟨o,ho,hc⟩:=he;exact wpAny_bind (wpAny_isInstance (T:="StopIteration") (b:=true) ⟨o,ho,hc⟩ isSubtype_stop (wpAny_pure (hE hn _ hk)))
theorem zNext_item{Q:Option Value→Shared→Prop}(hh:A.handled=none)(D:ZipApart z TI TO i1 i2 l1 l2)(S:ZSt z TI TO i1 i2 l1 l2 M ys k b b2 s.heap)(hx:M[k]?=some x)(hy:ys[k]?=some y)
  (hQ:∀h' T,s.heap.get? T=none→ZSt z TI TO i1 i2 l1 l2 M ys (k+1) b b2 h'→IsPair h' T x y→
   (∀c o,c≠z→c≠TO→c≠i1→c≠i2→s.heap.get? c=some o→h'.get? c=some o)→(IsZip s.heap z TI TO .none→IsZip h' z TI TO (rawInt T))→Q (some<|.ref T) {s with heap:=h'}) :
  wpAny (model prog w) A (pyNext<|.ref z) Q E s:=
 zNext hh D S (fun x' y' hx' hy' h' T a0 a1 a2 a3 a4=>hQ h' T a0 a1 (Option.some.inj (hx'.symm.trans hx)▸Option.some.inj (hy'.symm.trans hy)▸a2) a3 a4) fun hn=>hn.elim (fun q=>nomatch q.symm.trans hx) fun q=>nomatch q.symm.trans hy
theorem zNext_end{Q:Option Value→Shared→Prop}(hh:A.handled=none)(D:ZipApart z TI TO i1 i2 l1 l2)(S:ZSt z TI TO i1 i2 l1 l2 M ys k b b2 s.heap)(hend:M[k]?=none∨ys[k]?=none)
  (hQ:∀h',(∀c o,c≠z→c≠TO→c≠i1→c≠i2→s.heap.get? c=some o→h'.get? c=some o)→Q none {s with heap:=h'}) :wpAny (model prog w) A (pyNext<|.ref z) Q E s:=
 zNext hh D S (fun x y hx hy=>hend.elim (fun q=>nomatch q.symm.trans hx) fun q=>nomatch q.symm.trans hy) fun j0_=>hQ
theorem zIter{Q:Value→Shared→Prop}(S:ZSt z TI TO i1 i2 l1 l2 M ys k b b2 s.heap)(h:Q (.ref z) s) :wpAny (model prog w) A (pyIter (.ref z)) Q E s:=by refine wpAny_pyIter_slot S.ty F.slot_zip_iter (wpAny_call_entry F.slot_zip_iter S.ty F.entry_zip_iter ?_ (F.args_zip_iter_1 _));exact wpAny_pure ⟨_,rfl,"zip",_,S.ty,F.slot_zip_next.lookup,h⟩
end
noncomputable def SeqZ(h:Heap)(l:Addr)(M:Array Value) :Bool→Prop
 | false=>h.IsTuple l M
 | true=>h.IsList l M
noncomputable abbrev itO(l:Addr)(b:Bool) :Obj:= {cls:=.type (if b then "list_iterator" else "tuple_iterator"),data:=.fields #[.ref l,.int 0 0]}
theorem SeqZ.at{h h':Heap}{l:Addr}{M:Array Value}{b:Bool}(x:SeqZ h l M b)(k:∀o,h.get? l=some o→h'.get? l=some o) :SeqZ h' l M b:=by cases b with
 | false=>obtain⟨o,e,r⟩:=x;exact⟨o,k o e,r⟩
 | true=>obtain⟨o,e,r⟩:=x;exact⟨o,k o e,r⟩
theorem SeqZ.its{h:Heap}{i l:Addr}{M:Array Value}{b:Bool}(x:SeqZ h l M b)(e:h.get? i=some (itO l b)) :ItS h i l M 0 b:=by cases b with
 | false=>exact⟨⟨_,e,rfl,rfl⟩,x⟩
 | true=>exact⟨⟨_,e,rfl,rfl⟩,x⟩
theorem iter_z{prog:Program}{w:World}{A:Around}{E:Value→Shared→Prop}{s:Shared}{l:Addr}{M:Array Value}{b:Bool}{Q:Value→Shared→Prop}(x:SeqZ s.heap l M b)(h:Q (.ref s.heap.objs.size) {s with heap:=s.heap.push (itO l b)}) :wpAny (model prog w) A (pyIter<|.ref l) Q E s:=by cases b with
 | false=>exact wpAny_pyIter_tuple x h
 | true=>exact wpAny_pyIter_list x h
set_option maxHeartbeats 4000000 in
theorem z_new(l1 l2:Addr)(M ys:Array Value)(b b2:Bool) :Meets (Builtin.«zip.__new__» ⟨[.type "zip",.ref l1,.ref l2],[]⟩) (fun j0_ R s=>SeqZ s.heap l1 M b∧SeqZ s.heap l2 ys b2∧
  ∀h',ZSt (s.heap.objs.size+4) (s.heap.objs.size+2) (s.heap.objs.size+3) s.heap.objs.size (s.heap.objs.size+1) l1 l2 M ys 0 b b2 h'→IsZip h' (s.heap.objs.size+4) (s.heap.objs.size+2) (s.heap.objs.size+3) .none→(∀c o,s.heap.get? c=some o→h'.get? c=some o)→R (.ok<|.ret<|.ref<|s.heap.objs.size+4) {s with heap:=h'}):=
 .of_wp fun prog w A R s h=>by
  obtain⟨hp,g,d,tk,os⟩:=s;obtain⟨hl1,hl2,h⟩:=h;have hsub:=sub_zip;have P:∀{h:Heap}{c:Addr}{o:Obj}(o':Obj),h.get? c=some o→(h.push o').get? c=some o:=fun o' e=>Heap.get?_push_of_some o' e;have N:∀{h:Heap}{n:Nat}(o:Obj),h.objs.size=n→o.isFreed=false→(h.push o).get? n=some o:=fun {h n} o e f=>e▸Heap.get?_push_size h f;have hL1:SeqZ (Shared.heap ⟨hp,g,d,tk,os⟩) l1 M b:=hl1;have hL2:SeqZ (Shared.heap ⟨hp.push<|itO l1 b,g,d,tk,os⟩) l2 ys b2:=hl2.at fun o=>P _
  wp_walk using iter_z hL1,iter_z hL2
  refine⟨_,rfl,?_⟩;simp only[Heap.size_push]at h ⊢;refine h _ ⟨_,_,_,_,N _ (by simp only[Heap.size_push]) rfl,.new,P _<|P _<|N _ (by simp only[Heap.size_push]) rfl,P _<|N _ (by simp only[Heap.size_push]) rfl,(hl1.at fun o e=>P _<|P _<|P _<|P _<|P _ e).its<|P _<|P _<|P _<|P _<|N _ rfl rfl,(hl2.at fun o e=>P _<|P _<|P _<|P _<|P _ e).its<|P _<|P _<|P _<|N _ (by simp only[Heap.size_push]) rfl⟩ (N _ (by simp only[Heap.size_push]) rfl) fun c o e=>P _<|P _<|P _<|P _<|P _ e
theorem call_z{prog:Program}{w:World}{A:Around}{E:Value→Shared→Prop}{s:Shared}{l1 l2:Addr}{M ys:Array Value}{b b2:Bool}{Q:Value→Shared→Prop}(hl1:SeqZ s.heap l1 M b)(hl2:SeqZ s.heap l2 ys b2)
  (h:∀h',ZSt (s.heap.objs.size+4) (s.heap.objs.size+2) (s.heap.objs.size+3) s.heap.objs.size (s.heap.objs.size+1) l1 l2 M ys 0 b b2 h'→IsZip h' (s.heap.objs.size+4) (s.heap.objs.size+2) (s.heap.objs.size+3) .none→(∀c o,s.heap.get? c=some o→h'.get? c=some o)→Q (.ref<|s.heap.objs.size+4) {s with heap:=h'}) :
  wpAny (model prog w) A (call (.type "zip") [.ref l1,.ref l2]) Q E s:=
 callType_new F.called_zip (by decide) (F.typeCall_zip_2 _ _) (F.newCall_zip_2 _ _) (fun obj=>F.args_object_init_3 obj _ _) F.entry_zip_new (z_new l1 l2 M ys b b2) ⟨hl1,hl2,fun h' S q k=>⟨S.ty,h h' S q k⟩⟩
end Mv
end
section
set_option backward.match.sparseCases false
namespace Mv
open PySem PyProof.Rows
theorem owner_rv:Manifest.owners.lookup (String.ofList ['d','e','s','r','e','v','e','r'].reverse)=some Manifest.sig_reversed:=by kernel_rfl
theorem slot_rv_next:PySem.Slot "reversed" "__next__" "reversed.__next__":=
 .of (owner:="reversed") (n:="__next__") (by rw [typeLookup_type]; refine O builtinLookup_eq_fast ?_; kernel_rfl) (by decide +kernel) (by decide +kernel) (by decide +kernel) (.inl (by decide +kernel)) (by rw [isSubtype_type]; kernel_rfl)
theorem slot_rv_iter:PySem.Slot "reversed" "__iter__" "reversed.__iter__":=
 .of (owner:="reversed") (n:="__iter__") (by rw [typeLookup_type]; refine O builtinLookup_eq_fast ?_; kernel_rfl) (by decide +kernel) (by decide +kernel) (by decide +kernel) (.inl (by decide +kernel)) (by rw [isSubtype_type]; kernel_rfl)
theorem slot_rv_init:PySem.Slot "reversed" "__init__" "object.__init__":=
 .of (owner:="object") (n:="__init__") (by rw [typeLookup_type]; refine O builtinLookup_eq_fast ?_; kernel_rfl) (by decide +kernel) (by decide +kernel) (by decide +kernel) (.inl (by decide +kernel)) (by rw [isSubtype_type]; kernel_rfl)
theorem entry_rv_next:entryFor table "reversed.__next__"=some Builtin.«reversed.__next__»:=entryFor_of_tree (by kernel_rfl)
theorem entry_rv_iter:entryFor table "reversed.__iter__"=some Builtin.«dict_keyiterator.__iter__»:=
 entryFor_alias (id':="dict_keyiterator.__iter__") (by kernel_rfl) (by first | rfl | decide +kernel | (unfold String.splitOn; simp +decide [String.splitOnAux])) (by decide +kernel) (by kernel_rfl)
theorem args_rv_next(a:Value) :argsOk "reversed.__next__" ⟨[a],[]⟩:=by unfold argsOk; refine O (signature?_of (id:="reversed.__next__") (n:=['_','_','t','x','e','n','_','_']) (o:=['d','e','s','r','e','v','e','r']) (by kernel_rfl) owner_rv) ?_; kernel_rfl
theorem args_rv_iter(a:Value) :argsOk "reversed.__iter__" ⟨[a],[]⟩:=by unfold argsOk; refine O (signature?_of (id:="reversed.__iter__") (n:=['_','_','r','e','t','i','_','_']) (o:=['d','e','s','r','e','v','e','r']) (by kernel_rfl) owner_rv) ?_; kernel_rfl
theorem called_rv:TypeCalled "reversed" "reversed.__new__" "object.__init__":=
 ⟨by decide +kernel,by decide +kernel,⟨_,_,F.mro_reversed⟩,F.made_reversed,by decide +kernel,F.sub_reversed_self,slot_rv_init⟩
theorem rev_tuple:typeLookup (.type "tuple") "__reversed__"=pure none:=am_miss_of_fast (by kernel_rfl)
theorem tup_dict:isSubtype (.type "tuple") (.type "dict")=pure false:=by rw [isSubtype_type]; kernel_rfl
noncomputable def IsRv(h:Heap)(a t:Addr)(i:Int) :Prop:=h.get? a=some {cls:=.type "reversed",dict:=none,data:=.fields #[.ref t,rawInt i],slots:=#[]}
theorem IsRv.at{h h':Heap}{a t:Addr}{i:Int}(x:IsRv h a t i)(k:∀o,h.get? a=some o→h'.get? a=some o) :IsRv h' a t i:=k _ x
theorem rv_new(t:Addr)(items:Array Value)(hz:(items.size:Int) < 2 ^ 63) :Meets (Builtin.«reversed.__new__» ⟨[.type "reversed",.ref t],[]⟩) (fun j0_ R s=>IsTup s.heap t items∧
  ∀tk,R (.ok (.ret (.ref s.heap.objs.size))) {s with heap:=s.heap.push {cls:=.type "reversed",data:=.fields #[.ref t,rawInt ((items.size:Int)-1)]},toks:=tk}):=
 .of_wp fun prog w A R s h=>by
  unfold Builtin.«reversed.__new__»;refine wpAny_bind<|wpAny_of_eq (newClass_reversed _) ?_
  try dsimp only
  refine wpAny_bind<|wpAny_of_eq (a:=()) (by first | rfl | kernel_rfl) ?_;refine wpAny_bind<|wpAny_of_eq (a:=()) (by first | rfl | kernel_rfl) ?_
  try dsimp only
  refine wpAny_bind<|wpAny_specialOf h.1.typeIs rev_tuple ?_
  try dsimp only
  refine wpAny_bind ?_;refine wpAny_bind (wpAny_isInstance h.1.typeIs tup_dict ?_);refine wpAny_bind (wpAny_specialOf h.1.typeIs slot_tuple_getitem.lookup ?_);refine wpAny_ite_true rfl ?_;refine wpAny_pure ?_;refine wpAny_ite_false rfl ?_;refine wpAny_bind (len_tuple h.1 hz ?_);refine wpAny_bind (wpAny_of_eq (a:=some (items.size:Int)) rfl ?_);refine wpAny_bind ?_;show wpAny _ _ (newObj (.type "reversed") (.fields #[.ref t,rawInt ((items.size:Int)-1)])) _ _ _
  exact wpAny_newObj_type<|wpAny_pure ⟨_,rfl,h.2 _⟩
theorem Rv.next{s:Shared}{prog:Program}{w:World}{A:Around}{E:Value→Shared→Prop}{it t:Addr}{i:Nat}{items:Array Value}{x:Value}{Q:Option Value→Shared→Prop}(hit:IsRv s.heap it t (i:Int))(ht:IsTup s.heap t items)(hx:items[i]?=some x)(hz:(items.size:Int)<2 ^ 63)
  (hQ:∀h' tk,IsRv h' it t ((i:Int) - 1)→Heap.SameBut it s.heap h'→Q (some x) {s with heap:=h',toks:=tk}) :wpAny (model prog w) A (pyNext<|.ref it) Q E s:=by
 have ho:=hit;unfold pyNext;refine wpAny_bind (wpAny_attempt (wpAny_callSpecial?_slot (name:=Str.ofString "__next__") (⟨_,ho,rfl⟩) slot_rv_next (wpAny_call_entry slot_rv_next (⟨_,ho,rfl⟩) entry_rv_next ?_ (args_rv_next _))));show wpAny _ _ (field (.ref it) 0 >>= _) _ _ _
 refine wpAny_bind<|wpAny_field ho rfl (x:=.ref t) rfl ?_;refine wpAny_bind<|wpAny_field ho rfl (x:=rawInt (i:Int)) rfl ?_;refine wpAny_ite_false (decide_eq_false<|Int.not_lt.mpr<|Int.natCast_nonneg i) ?_;refine wpAny_bind<|wpAny_specialOf ht.typeIs slot_tuple_getitem.lookup ?_;refine wpAny_ite_false rfl ?_;refine wpAny_bind<|wpAny_mkInt ?_;refine wpAny_bind<|wpAny_attempt<|getItem_tuple (s:= {s with toks:=s.toks+1}) (j:=i) ht (lin [i] [] 1 (.le (.g<|.c 9223372036854775808)<|.n<|.v 0) [] rfl) (lin [i,items.size] [] 1 (.le (.a (.n<|.v 0)<|.c 1)<|.c 9223372036854775808) [(1,.le (.a (.n<|.v 1)<|.c 1)<|.c 9223372036854775808),(1,.nle (.a (.v 0)<|.c 1)<|.v 1)] rfl hz<|(Array.getElem?_eq_some_iff.mp hx).1) ?_ hx ?_
 .show(if (decide (0≤if (i:Int)<0 then(i:Int)+items.size else i)&&decide ((if (i:Int)<0 then(i:Int)+items.size else i)<items.size))=true then some (if (i:Int)<0 then(i:Int)+items.size else i).toNat else none)=some i
  rw[if_neg (show ¬(i:Int)<0 by exact(fun mvo20=>(linF [i] [] [(1,.le (.a (.n<|.v 0)<|.c 1)<|.c 0)] rfl mvo20)))];refine O (if_pos (by simp[((Array.getElem?_eq_some_iff.mp hx).1)])) ?_;rfl
 exact wpAny_bind<|wpAny_field (s:= {s with toks:=s.toks+1}) ho rfl (x:=rawInt (i:Int)) rfl<|wpAny_bind<|wpAny_setField_rec (s:= {s with toks:=s.toks+1}) ho (by simp) fun h' h1 h2=>wpAny_pure ⟨x,rfl,wpAny_pure<|hQ h' _ h1 h2⟩
theorem Rv.last{s:Shared}{prog:Program}{w:World}{A:Around}{E:Value→Shared→Prop}{it t:Addr}{Q:Option Value→Shared→Prop}(hh:A.handled=none)(hit:IsRv s.heap it t (-1))
  (hQ:∀h',Heap.ExtBut it s.heap h'→Q none {s with heap:=h'}) :wpAny (model prog w) A (pyNext<|.ref it) Q E s:=by
 have ho:=hit;unfold pyNext;refine wpAny_bind (wpAny_attempt (wpAny_callSpecial?_slot (name:=Str.ofString "__next__") (⟨_,ho,rfl⟩) slot_rv_next (wpAny_call_entry slot_rv_next (⟨_,ho,rfl⟩) entry_rv_next ?_ (args_rv_next _))));show wpAny _ _ (field (.ref it) 0 >>= _) _ _ _
 refine wpAny_bind (wpAny_field ho rfl (x:=.ref t) rfl ?_);refine wpAny_bind (wpAny_field ho rfl (x:=rawInt (-1)) rfl ?_);refine wpAny_ite_true rfl ?_;refine wpAny_bind (wpAny_rule (wpAny_bind ?_));refine wpAny_bind (wpAny_setField_rec ho (by simp) fun h₁ h1 s1=>?_);refine wpAny_setField_rec (s:= {s with heap:=h₁}) h1 (by simp) fun h₂ h2 s2=>?_;refine wpAny_bind (stop_it (s:= {s with heap:=h₂}) hh fun h' e k x=>?_);exact ex1 x fun o x=>(wpAny_bind (wpAny_isInstance (T:="StopIteration") (b:=true) ⟨o,x.1,x.2⟩ isSubtype_stop (wpAny_pure (hQ _ fun b o n e=>k b o (s2.extBut b o n (s1.extBut b o n e))))))
theorem Rv.iter{s:Shared}{prog:Program}{w:World}{A:Around}{E:Value→Shared→Prop}{it t:Addr}{i:Int}{Q:Value→Shared→Prop}(hit:IsRv s.heap it t i)(h:Q (.ref it) s) :wpAny (model prog w) A (pyIter<|.ref it) Q E s:=by
 have hT:s.TypeIs (.ref it) "reversed":=⟨_,hit,rfl⟩
 refine wpAny_pyIter_slot hT slot_rv_iter (wpAny_call_entry slot_rv_iter hT entry_rv_iter ?_ (args_rv_iter _));exact wpAny_pure ⟨_,rfl,"reversed",_,hT,slot_rv_next.lookup,h⟩
theorem call_rv{s:Shared}{prog:Program}{w:World}{A:Around}{E:Value→Shared→Prop}{t:Addr}{items:Array Value}{Q:Value→Shared→Prop}(ht:IsTup s.heap t items)(hz:(items.size:Int)<2 ^ 63)
  (h:∀tk,Q (.ref s.heap.objs.size) {s with heap:=s.heap.push {cls:=.type "reversed",data:=.fields #[.ref t,rawInt ((items.size:Int)-1)]},toks:=tk}) :wpAny (model prog w) A (call (.type "reversed") [.ref t]) Q E s:=
 callType_new called_rv (by decide) (F.typeCall_reversed_1 _) (F.newCall_reversed_1 _) (fun obj=>F.args_object_init_2 obj _) F.entry_reversed_new (rv_new t items hz) ⟨ht,fun tk=>⟨⟨_,Heap.get?_push_size _ rfl,rfl⟩,h tk⟩⟩
theorem Walks.rv{prog:Program}{w:World}{A:Around}(hh:A.handled=none)(I t:Addr)(hne:t≠I)(items:Array Value)(hz:(items.size:Int)<2 ^ 63) :
  Walks prog w A I [I,t] [I] items.size (fun i v=>items[items.size - 1 - i]?=some v) (fun i h=>i≤items.size∧IsRv h I t ((items.size:Int) - 1 - (i:Int))∧IsTup h t items) where
 sub:=fun b hb=>by simp at hb;simp[hb]
 frame:=fun j0_ j1_ j2_ x hk=>⟨x.1,x.2.1.at fun o e=>hk I (by simp) o e,let ⟨o,e,r⟩:=x.2.2;⟨o,hk t (by simp) o e,r⟩⟩
 item:=fun i s Q E hi x hQ=>by have hit:=x.2.1;rw[show(items.size:Int) - 1 - (i:Int)=((items.size - 1 - i:Nat) :Int) by exact(Int.le_antisymm (lin [items.size,i,items.size - (1:Nat) - i,items.size - (1:Nat)] [] 1 (.le (.s (.s (.n<|.v 0)<|.c 1)<|.n<|.v 1)<|.n<|.v 2) [(-1,.neq (.a (.v 2)<|.v 1)<|.v 3),(-1,.neq (.a (.v 3)<|.c 1)<|.v 0)] rfl (Nat.sub_add_cancel (n:=items.size - (1:Nat)) (m:=i)<|lin [i,items.size - (1:Nat),items.size] [] 1 (.nle (.v 0)<|.v 1) [(1,.nle (.a (.v 0)<|.c 1)<|.v 2),(-1,.neq (.a (.v 1)<|.c 1)<|.v 2)] rfl hi<|Nat.sub_add_cancel (n:=items.size) (m:=(1:Nat))<|lin [items.size,i] [] 1 (.nle (.c 1)<|.v 0) [(1,.nle (.a (.v 1)<|.c 1)<|.v 0)] rfl hi)<|Nat.sub_add_cancel (n:=items.size) (m:=(1:Nat))<|lin [items.size,i] [] 1 (.nle (.c 1)<|.v 0) [(1,.nle (.a (.v 1)<|.c 1)<|.v 0)] rfl hi)<|lin [items.size - (1:Nat) - i,items.size,i,items.size - (1:Nat)] [] 1 (.le (.n<|.v 0)<|.s (.s (.n<|.v 1)<|.c 1)<|.n<|.v 2) [(1,.neq (.a (.v 0)<|.v 2)<|.v 3),(1,.neq (.a (.v 3)<|.c 1)<|.v 1)] rfl (Nat.sub_add_cancel (n:=items.size - (1:Nat)) (m:=i)<|lin [i,items.size - (1:Nat),items.size] [] 1 (.nle (.v 0)<|.v 1) [(1,.nle (.a (.v 0)<|.c 1)<|.v 2),(-1,.neq (.a (.v 1)<|.c 1)<|.v 2)] rfl hi<|Nat.sub_add_cancel (n:=items.size) (m:=(1:Nat))<|lin [items.size,i] [] 1 (.nle (.c 1)<|.v 0) [(1,.nle (.a (.v 1)<|.c 1)<|.v 0)] rfl hi)<|Nat.sub_add_cancel (n:=items.size) (m:=(1:Nat))<|lin [items.size,i] [] 1 (.nle (.c 1)<|.v 0) [(1,.nle (.a (.v 1)<|.c 1)<|.v 0)] rfl hi)]at hit;have hx:items[items.size - 1 - i]?=some (items[items.size - 1 - i]'(lin [items.size - (1:Nat) - i,items.size,i,items.size - (1:Nat)] [] 1 (.nle (.a (.v 0)<|.c 1)<|.v 1) [(1,.neq (.a (.v 0)<|.v 2)<|.v 3),(1,.neq (.a (.v 3)<|.c 1)<|.v 1)] rfl (Nat.sub_add_cancel (n:=items.size - (1:Nat)) (m:=i)<|lin [i,items.size - (1:Nat),items.size] [] 1 (.nle (.v 0)<|.v 1) [(1,.nle (.a (.v 0)<|.c 1)<|.v 2),(-1,.neq (.a (.v 1)<|.c 1)<|.v 2)] rfl hi<|Nat.sub_add_cancel (n:=items.size) (m:=(1:Nat))<|lin [items.size,i] [] 1 (.nle (.c 1)<|.v 0) [(1,.nle (.a (.v 1)<|.c 1)<|.v 0)] rfl hi)<|Nat.sub_add_cancel (n:=items.size) (m:=(1:Nat))<|lin [items.size,i] [] 1 (.nle (.c 1)<|.v 0) [(1,.nle (.a (.v 1)<|.c 1)<|.v 0)] rfl hi)):=Array.getElem?_eq_getElem (by exact(lin [items.size - (1:Nat) - i,items.size,i,items.size - (1:Nat)] [] 1 (.nle (.a (.v 0)<|.c 1)<|.v 1) [(1,.neq (.a (.v 0)<|.v 2)<|.v 3),(1,.neq (.a (.v 3)<|.c 1)<|.v 1)] rfl (Nat.sub_add_cancel (n:=items.size - (1:Nat)) (m:=i)<|lin [i,items.size - (1:Nat),items.size] [] 1 (.nle (.v 0)<|.v 1) [(1,.nle (.a (.v 0)<|.c 1)<|.v 2),(-1,.neq (.a (.v 1)<|.c 1)<|.v 2)] rfl hi<|Nat.sub_add_cancel (n:=items.size) (m:=(1:Nat))<|lin [items.size,i] [] 1 (.nle (.c 1)<|.v 0) [(1,.nle (.a (.v 1)<|.c 1)<|.v 0)] rfl hi)<|Nat.sub_add_cancel (n:=items.size) (m:=(1:Nat))<|lin [items.size,i] [] 1 (.nle (.c 1)<|.v 0) [(1,.nle (.a (.v 1)<|.c 1)<|.v 0)] rfl hi));refine Rv.next hit x.2.2 hx hz fun h' tk hit' hs'=>?_;rw[show((items.size - 1 - i:Nat) :Int) - 1=(items.size:Int) - 1 - ((i+1:Nat) :Int) by exact(Int.le_antisymm (lin [items.size - (1:Nat) - i,items.size,i,items.size - (1:Nat)] [] 1 (.le (.s (.n<|.v 0)<|.c 1)<|.s (.s (.n<|.v 1)<|.c 1)<|.n<|.a (.v 2)<|.c 1) [(1,.neq (.a (.v 0)<|.v 2)<|.v 3),(1,.neq (.a (.v 3)<|.c 1)<|.v 1)] rfl (Nat.sub_add_cancel (n:=items.size - (1:Nat)) (m:=i)<|lin [i,items.size - (1:Nat),items.size] [] 1 (.nle (.v 0)<|.v 1) [(1,.nle (.a (.v 0)<|.c 1)<|.v 2),(-1,.neq (.a (.v 1)<|.c 1)<|.v 2)] rfl hi<|Nat.sub_add_cancel (n:=items.size) (m:=(1:Nat))<|lin [items.size,i] [] 1 (.nle (.c 1)<|.v 0) [(1,.nle (.a (.v 1)<|.c 1)<|.v 0)] rfl hi)<|Nat.sub_add_cancel (n:=items.size) (m:=(1:Nat))<|lin [items.size,i] [] 1 (.nle (.c 1)<|.v 0) [(1,.nle (.a (.v 1)<|.c 1)<|.v 0)] rfl hi)<|lin [items.size,i,items.size - (1:Nat) - i,items.size - (1:Nat)] [] 1 (.le (.s (.s (.n<|.v 0)<|.c 1)<|.n<|.a (.v 1)<|.c 1)<|.s (.n<|.v 2)<|.c 1) [(-1,.neq (.a (.v 2)<|.v 1)<|.v 3),(-1,.neq (.a (.v 3)<|.c 1)<|.v 0)] rfl (Nat.sub_add_cancel (n:=items.size - (1:Nat)) (m:=i)<|lin [i,items.size - (1:Nat),items.size] [] 1 (.nle (.v 0)<|.v 1) [(1,.nle (.a (.v 0)<|.c 1)<|.v 2),(-1,.neq (.a (.v 1)<|.c 1)<|.v 2)] rfl hi<|Nat.sub_add_cancel (n:=items.size) (m:=(1:Nat))<|lin [items.size,i] [] 1 (.nle (.c 1)<|.v 0) [(1,.nle (.a (.v 1)<|.c 1)<|.v 0)] rfl hi)<|Nat.sub_add_cancel (n:=items.size) (m:=(1:Nat))<|lin [items.size,i] [] 1 (.nle (.c 1)<|.v 0) [(1,.nle (.a (.v 1)<|.c 1)<|.v 0)] rfl hi)]at hit';exact hQ _ h' tk hx ⟨hi,hit',x.2.2.extBut hs'.extBut hne⟩ fun b o hb eo=>hs'.extBut b o (fun h=>hb (by simp[h])) eo
 done:=fun s Q E x hQ=>by have hit:=x.2.1;rw[show(items.size:Int) - 1 - (items.size:Int) = -1 by exact(Int.le_antisymm (lin [items.size] [] 1 (.le (.s (.s (.n<|.v 0)<|.c 1)<|.n<|.v 0)<|.g<|.c 1) [] rfl)<|lin [items.size] [] 1 (.le (.g<|.c 1)<|.s (.s (.n<|.v 0)<|.c 1)<|.n<|.v 0) [] rfl)]at hit;exact Rv.last hh hit fun h' he'=>hQ h' s.toks fun b o hb eo=>he' b o (fun h=>hb (by simp[h])) eo
 self:=fun j0_ j1_ j2_ j3_ x hQ=>Rv.iter x.2.1 hQ
end Mv
end
section
set_option backward.match.sparseCases false
namespace Mv
open PySem PyProof.Rows
section
variable {prog:Program}{w:World}{A:Around}{E:Value→Shared→Prop}{s:Shared}
theorem keys_zip:typeLookup (.type "zip") "keys"=pure none:=am_miss_of_fast (by kernel_rfl)
theorem zip_ga:typeLookup (.type "zip") "__getattr__"=pure none:=am_miss_of_fast (by kernel_rfl)
theorem entry_zip_ga:entryFor table "zip.__getattribute__"=some Builtin.«object.__getattribute__»:=
 entryFor_alias (id':="object.__getattribute__") (by kernel_rfl) (by decide +kernel) (by decide +kernel) (by kernel_rfl)
theorem zip_miss(a:Addr)(M:Array Value)(u:Tok) :Meets (Builtin.«object.__getattribute__» ⟨[.ref a,.str "keys" u],[]⟩) (fun A R s=>s.heap.get? a=some {cls:=.type "zip",dict:=none,data:=.fields M,slots:=#[]}∧raisesAttr (.ref a) "keys" A R s):=
 Meets.of_wp fun prog w A R s hs=>by
  obtain ⟨hp,g,d,tk,os⟩:=s;have hx:=hs.1; have hs:=hs.2;have hT:(⟨hp,g,d,tk,os⟩ :Shared).TypeIs (.ref a) "zip":=⟨_,hx,rfl⟩
  have hk:=keys_zip;unfold Builtin.«object.__getattribute__»
  repeat (any_goals (first | assumption | wp_step))
  try simp only [show (["__module__","__name__","__qualname__","__doc__","__annotations__"] :ax).contains "keys"=false by decide,Bool.false_eq_true,if_false]
  repeat (any_goals (first | assumption | wp_step))
  exact wpAny_raiseAttrError hs.1 hs.2<|attrMsg_fits (by decide +kernel) (by size_fits)
theorem zip_nokeys{a:Addr}{M:Array Value}{Q:Option Value→Shared→Prop}(hx:s.heap.get? a=some {cls:=.type "zip",dict:=none,data:=.fields M,slots:=#[]})(hA:A.handled=none)
  (h:∀h' tk,(∀b o,s.heap.get? b=some o→h'.get? b=some o)→Q none {s with heap:=h',toks:=tk}) :wpAny (model prog w) A (getAttr? (.ref a) "keys") Q E s:=by
 obtain ⟨hp,g,d,tk,os⟩:=s;have hT:∀tk',(⟨hp,g,d,tk',os⟩ :Shared).TypeIs (.ref a) "zip":=fun j0_=>⟨_,hx,rfl⟩
 have f1:=sub_AttributeError;have f3:=F.slot_zip_getattribute.lookup;have f4:=F.slot_zip_getattribute.bind<|.ref a;have f5:=zip_ga;unfold getAttr? getAttrBy? getAttrBy
 repeat (any_goals (first | assumption | exact hT _ | ((with_reducible show wpAny _ _ (call (Value.builtin "zip.__getattribute__") _ _) _ _ _); refine call_meets F.slot_zip_getattribute (hT _) entry_zip_ga (F.args_zip_getattribute_2 _ _) (zip_miss a M _) ⟨hx,hA,fun h' tk' e hx'=>?_⟩) | wp_step))
 refine ex2 hx'.there fun t' u' he=>?_;unfold getattributeRaised
 repeat (any_goals (first | assumption | wp_step))
 exact h _ _ hx'.of.keeps
theorem entry_dul:entryFor table "dict.update.loop"=some Builtin.«dict.update.loop»:=entryFor_of_tree (by kernel_rfl)
theorem plain_dul:plainId "dict.update.loop"=true:=by decide +kernel
end
section
variable [Hp]
variable {A:Around}{E:Value→Shared→Prop}{s:Shared}{Z:Addr→Prop}{a:Value}{z TI TO i1 i2 l1 l2 d:Addr}{M ys:ay}{b b2:Bool}{R:Result→Shared→Prop}
theorem drop_some{α:Type}{l r:List α}{v:α}{i:Nat}(h:l.drop i=v::r) :l.toArray[i]?=some v∧l.drop (i+1)=r:=by refine⟨?_,by refine O List.tail_drop.symm<|O h ?_;rfl⟩;refine O (List.getElem?_toArray) ?_;have:=congrArg (·[0]?) h;simpa using this
theorem drop_none{α:Type}{l:List α}{i:Nat}(h:l.drop i=[]) :l.toArray[i]?=none:=by exact O (List.getElem?_toArray)<|List.getElem?_eq_none<|List.drop_eq_nil_iff.mp h
noncomputable def offZ(z TO i1 i2 d c:Addr) :Prop:=c≠z∧c≠TO∧c≠i1∧c≠i2∧c≠d
theorem dz_end{k:Nat}{us:List (Str×Value)}{kvs:aC}(hh:A.in1.handled=none)(ZA:ZipApart z TI TO i1 i2 l1 l2)(nd:d∉ [z,TI,TO,i1,i2,l1,l2])(zZ:∀c,Z c→offZ z TO i1 i2 d c)(S:ZSt z TI TO i1 i2 l1 l2 M.toArray ys.toArray k b b2 s.heap)(hend:M.toArray[k]?=none∨ys.toArray[k]?=none)
  (hd:s.heap.DictOf (strKind prog w) d us) (K:RepKV s.heap Z us kvs) (hb:us.length≤1000)
  (hR:∀h' tk us',h'.DictOf (strKind prog w) d us'→RepKV h' Z us' kvs→us'.length≤1000→(∀c o,offZ z TO i1 i2 d c→s.heap.get? c=some o→h'.get? c=some o)→R (.ok<|.ret .none) {s with heap:=h',toks:=tk}) :
  codeAny (model prog w) A (.builtin "dict.update.loop" ⟨[.ref d,.ref z,rawInt k,.none],[]⟩) R s:=by
 refine codeAny_builtin entry_dul ?_;refine O (Around.under_plainId plain_dul _) ?_;refine wpAny_bind<|zNext_end hh ZA S hend fun h' ex=>?_;have ko:∀c o,offZ z TO i1 i2 d c→s.heap.get? c=some o→h'.get? c=some o:=fun c o q e=>ex c o q.1 q.2.1 q.2.2.1 q.2.2.2.1 e;have hd':h'.DictOf (strKind prog w) d us:=by exact ex3 hd fun o es ep hd=>(⟨o,es,ep,ex d o (fun q=>nd (by simp[q])) (fun q=>nd (by simp[q])) (fun q=>nd (by simp[q])) (fun q=>nd (by simp[q])) hd.1,hd.2⟩)
 exact wpAny_bind<|wpAny_pure<|wpAny_pure<|hR h' s.toks us hd' (K.mono (fun c o z e=>ko c o (zZ c z) e) fun j0_ z=>z) hb ko
theorem dz_loop(hh:A.in1.handled=none)(ZA:ZipApart z TI TO i1 i2 l1 l2)(nd:d∉ [z,TI,TO,i1,i2,l1,l2])(zZ:∀c,Z c→offZ z TO i1 i2 d c) :∀(ks vs:aB)(k:Nat)(s:Shared)(us:List (Str×Value))(am kvs:aC),ZSt z TI TO i1 i2 l1 l2 M.toArray ys.toArray k b b2 s.heap→RepAll s.heap Z (M.drop k) ks→RepAll s.heap Z (ys.drop k) vs→dofL am (zipL ks vs)=some kvs→
  s.heap.DictOf (strKind prog w) d us→RepKV s.heap Z us am→us.length+ks.length≤1000→
  (∀h' tk us',h'.DictOf (strKind prog w) d us'→RepKV h' Z us' kvs→us'.length≤1000→(∀c o,offZ z TO i1 i2 d c→s.heap.get? c=some o→h'.get? c=some o)→R (.ok<|.ret .none) {s with heap:=h',toks:=tk})→
  codeAny (model prog w) A (.builtin "dict.update.loop" ⟨[.ref d,.ref z,rawInt k,.none],[]⟩) R s:=by
 intro ks;induction ks with
 | nil=>intro vs k s us am kvs S RX RY he hd K hb hR;generalize hv:M.drop k=r at RX;refine hidG fun G2 g2=>?_;cases RX;obtain rfl:=sos he;exact g2<|dz_end hh ZA nd zZ S (.inl<|drop_none hv) hd K hb hR
 | cons c ks ih=>
  intro vs k s us am kvs S RX RY he hd K hb hR;generalize hv:M.drop k=r at RX;generalize hw:ys.drop k=r' at RY;refine hidG fun G1 g1=>?_;cases RX with
  | @cons x r1 _ _ rx RX=>
  refine g1 ?_;refine hidG fun G g=>?_;cases RY with
  | nil=>refine g ?_;obtain rfl:=sos he;exact dz_end hh ZA nd zZ S (.inr<|drop_none hw) hd K (Nat.le_trans (Nat.le_add_right _ _) hb) hR
  | @cons y r2 e vs ry RY=>
  refine g ?_;refine hidG fun G3 g3=>?_;cases rx with
  | str kx t o1 o2=>
   refine g3 ?_;refine codeAny_builtin entry_dul ?_;refine O (Around.under_plainId plain_dul _) ?_;refine wpAny_bind<|zNext_item hh ZA S (drop_some hv).1 (drop_some hw).1 fun h₁ T nT S₁ hT ex j0_=>?_;have hd₁:h₁.DictOf (strKind prog w) d us:=by exact ex3 hd fun o es ep hd=>(⟨o,es,ep,ex d o (fun q=>nd (by simp[q])) (fun q=>nd (by simp[q])) (fun q=>nd (by simp[q])) (fun q=>nd (by simp[q])) hd.1,hd.2⟩)
   refine wpAny_bind (wpAny_holding ?_);refine wpAny_bind (wpAny_tryCatch ?_);unfold Builtin.Dict.pairItems;refine wpAny_bind (wpAny_typeOf (T:="tuple") ⟨_,hT,rfl⟩ ?_);refine O (if_pos (by decide)) ?_;refine wpAny_bind (wpAny_seqItems hT rfl (wpAny_pure ?_));refine wpAny_holding (wpAny_dictSet_pairs (s:= {s with heap:=h₁}) (strKind_is _ _ kx t) hd₁ (fun h₂ hd₂ sb₂=>?_) (by refine O sz_line.symm ?_; exact Nat.le_trans (Nat.le_trans (Nat.le_add_right _ _) hb) (by decide)));have k2:∀c o,offZ z TO i1 i2 d c→s.heap.get? c=some o→h₂.get? c=some o:=fun c o q e=>sb₂.extBut c o q.2.2.2.2 (ex c o q.1 q.2.1 q.2.2.1 q.2.2.2.1 e);have kz:∀c o,Z c→s.heap.get? c=some o→h₂.get? c=some o:=fun c o z e=>k2 c o (zZ c z) e;have hlen:(stored us kx y).length≤us.length+1:=by
    unfold stored;split
    .simp
    .simp
   refine wpAny_pure ⟨plainId_quiet plain_dul _,?_⟩;refine ih vs (k+1) {s with heap:=h₂,toks:=s.toks+1} (stored us kx y) (dsetL am kx e) kvs (S₁.but nd (fun c o q e=>sb₂.extBut c o q e) (let ⟨o,_,_,e,_⟩:=hd₂;⟨o,e⟩)) ((drop_some hv).2▸RX.mono kz fun j0_ z=>z) ((drop_some hw).2▸RY.mono kz fun j0_ z=>z) he hd₂ ((K.set o1 o2 ry).mono kz fun j0_ z=>z) ?_ fun h' tk us' a1 a2 a3 a4=>hR h' tk us' a1 a2 a3 fun c o q e=>a4 c o q<|k2 c o q e;have:us.length+(ks.length+1)≤1000:=hb;exact(Ln [(stored us kx y).length,ks.length,us.length] (.w (.a .x .y)<|.c 1000) [Gl (.a .z<|.p 1 .y)<|.c 1000,Gl .x<|.p 1 .z] rfl hb hlen)
  | _=>exact g3<|nos he
theorem sys_ne{h:Heap}(hs:3<h.objs.size) :(h.objs.size==sysModules)=false:=by rw[beq_eq_false_iff_ne];intro e;rw[e]at hs;exact absurd hs (by decide)
inductive SqD(h:Heap)(Z:Addr→Prop)(v:Value)(ks:aB) :Prop
 | mk (l:Addr) (M:ay) (b:Bool) :v = .ref l→SeqZ h l M.toArray b→l<h.objs.size→RepAll h Z M ks→SqD h Z v ks
theorem Dat.sqL{h:Heap}{v:Value}{ks:aB}(ra:Dat h Z v (.list ks)) :SqD h Z v ks:=by obtain⟨l,M,n,rfl,hl,_,R⟩:=ra.list;exact⟨l,M,true,rfl,⟨_,hl,rfl,_,rfl⟩,Heap.lt_size hl,R⟩
theorem Dat.sqT{h:Heap}{v:Value}{ks:aB}(ra:Dat h Z v (.tuple ks)) :SqD h Z v ks:=by obtain⟨l,M,n,rfl,hl,_,R,_⟩:=ra.tuple;exact⟨l,M,false,rfl,⟨_,hl,rfl,_,rfl⟩,Heap.lt_size hl,R⟩
theorem op_dz{ks vs:aB}{r:Rv}{b:Value}(hs:3<s.heap.objs.size)(hh:A.handled=none)(he:(if ks.length≤1000 then(dofL []<|zipL ks vs).map fun kvs=>Rv.ai (.dict kvs) else none)=some r)(ra:SqD s.heap Z a ks)(rb:SqD s.heap Z b vs)(zl:∀b,Z b→ ∃o,s.heap.get? b=some o) :
  wpAny (model prog w) A (call (.type "zip") [a,b]) (fun v s₁=>wpAny (model prog w) A (call (.type "dict") [v]) (Op Z s r) E s₁) E s:=by
 refine hidG fun G g=>?_;obtain⟨hx,he⟩:=ifx he;obtain⟨l1,M,b1,rfl,hl1,a1,R1⟩:=ra;obtain⟨l2,ys,b2,rfl,hl2,a2,R2⟩:=rb;obtain⟨kvs,hk,rfl⟩:=Option.map_eq_some_iff.mp he;generalize hN:s.heap.objs.size=N at *;refine g ?_;refine call_z hl1 hl2 fun h₁ S j0_ k1=>?_;rw[hN]at S ⊢;have lt1:N+4<h₁.objs.size:=by obtain⟨_,_,_,_,e,_,_,_,_,_⟩:=S;exact Heap.lt_size e
 let H1:=h₁.push {cls:=.type "dict",data:=.dict #[]}
 refine callType_codes (Q₁:=fun obj s₁=>obj=.ref h₁.objs.size∧s₁={s with heap:=H1}) PySem.F.kt_called_dict (PySem.F.kt_typeCall_dict_1 _) PySem.F.entry_dict_init (kt_code_dict_new (s:= {s with heap:=h₁}) _ ⟨rfl,rfl⟩) ?_;rintro obj s₁ ⟨rfl,rfl⟩;refine ⟨(Heap.DictOf.new h₁:H1.DictOf (strKind prog w) h₁.objs.size []).typeIs,PySem.F.args_dict_init_2 _ _,?_⟩;unfold Builtin.«dict.__init__»;refine wpAny_bind ?_;unfold Builtin.Dict.selfAndRest;refine wpAny_bind (wpAny_notOrdered_dict (Heap.DictOf.new h₁:H1.DictOf (strKind prog w) h₁.objs.size []).typeIs ?_);refine wpAny_pure ?_;show wpAny _ _ (Builtin.Dict.updateFrom "dict.__init__" h₁.objs.size (.ref (N+4)) [] .none) _ _ _
 unfold Builtin.Dict.updateFrom;have S1:ZSt (N+4) (N+2) (N+3) N (N+1) l1 l2 M.toArray ys.toArray 0 b1 b2 H1:=S.at fun c o e=>pK _ c o e;refine wpAny_bind (wpAny_typeOf (T:="zip") S1.ty (s:= {s with heap:=H1}) ?_);refine O (if_pos (by decide)) ?_;obtain ⟨zx,hz1⟩ :∃M,H1.get? (N+4)=some {cls:=.type "zip",dict:=none,data:=.fields M,slots:=#[]}:=by obtain ⟨_,_,_,_,e,_,_,_,_,_⟩:=S1; exact ⟨_,e⟩
 refine wpAny_bind<|zip_nokeys (s:= {s with heap:=H1}) hz1 (by simp[hh]) fun h₂ tk₂ k2=>?_;refine O (if_pos (show(none:Option Value).isNone=true from rfl)) ?_;refine wpAny_bind<|wpAny_rule<|wpAny_bind<|zIter (s:= {s with heap:=h₂,toks:=tk₂}) (S1.at fun c o e=>k2 c o e) ?_;have k3:∀c o,s.heap.get? c=some o→h₂.get? c=some o:=fun c o e=>k2 c o<|pK _ c o<|k1 c o e;refine wpAny_pure ⟨plainId_quiet plain_dul _,?_⟩;have off:∀c,c<N→offZ (N+4) (N+3) N (N+1) h₁.objs.size c:=fun c h=>⟨Nat.ne_of_lt<|Nat.lt_of_lt_of_le h<|Nat.le_add_right _ _,Nat.ne_of_lt<|Nat.lt_of_lt_of_le h<|Nat.le_add_right _ _,Nat.ne_of_lt h,Nat.ne_of_lt<|Nat.lt_of_lt_of_le h<|Nat.le_add_right _ _,Nat.ne_of_lt<|Nat.lt_trans (Nat.lt_of_lt_of_le h<|Nat.le_add_right _ 4) lt1⟩
 refine dz_loop (s:= {s with heap:=h₂,toks:=tk₂}) (Z:=Z) (by simp[hh]) (zipApart_new a1 a2) (fun q=>by simp only[List.mem_cons,List.not_mem_nil,or_false]at q;rcases q with q | q | q | q | q | q | q <;> (rw[q]at lt1;first | exact Nat.lt_irrefl N (Nat.lt_trans (Nat.lt_of_le_of_lt (Nat.le_add_right N 4) lt1) a1) | exact Nat.lt_irrefl N (Nat.lt_trans (Nat.lt_of_le_of_lt (Nat.le_add_right N 4) lt1) a2) | (first | exact(Lf [N] [Gl (.p 1<|.p 4 .x)<|.p 4 .x] rfl lt1) | exact(Lf [N] [Gl (.p 1<|.p 4 .x)<|.p 2 .x] rfl lt1) | exact(Lf [N] [Gl (.p 1<|.p 4 .x)<|.p 3 .x] rfl lt1) | exact(Lf [N] [Gl (.p 1<|.p 4 .x) .x] rfl lt1) | exact(Lf [N] [Gl (.p 1<|.p 4 .x)<|.p 1 .x] rfl lt1)))) (fun c z=>off c (by refine ex1 (zl c z) fun o e=>?_;exact hN▸Heap.lt_size e)) ks vs 0 [] [] kvs (S1.at fun c o e=>k2 c o e) (by refine O List.drop_zero ?_;exact R1.mono (fun c o j0_=>k3 c o) fun j0_ z=>z) (by refine O List.drop_zero ?_;exact R2.mono (fun c o j0_=>k3 c o) fun j0_ z=>z) hk ((Heap.DictOf.new h₁:H1.DictOf (strKind prog w) h₁.objs.size []).keep k2) .nil (by simpa using hx) fun h' tk us' a1 a2 a3 a4=>?_;exact⟨rfl,h',tk,rfl,fun c o e=>a4 c o (off c<|hN▸Heap.lt_size e)<|k3 c o e,.ai (Heap.get?_none_of_le<|Ln [s.heap.objs.size,h₁.objs.size,N] (.w .x .y) [Ge .x .z,Gl (.p 1<|.p 4 .z) .y] rfl hN lt1)<|.dict ⟨sys_ne (h:=h₁)<|Ln [h₁.objs.size,N] (.w (.p 1<|.c 3) .x) [Gl (.p 1<|.c 3) .y,Gl (.p 1<|.p 4 .y) .x] rfl hs lt1,a1⟩ (Nat.le_trans a3 (by decide)) a2⟩
theorem op_dzip{d e:D}{r:Rv}{b:Value}(hs:3<s.heap.objs.size)(hh:A.handled=none)(he:biD .dzip [d,e]=some r)(ra:Dat s.heap Z a d)(rb:Dat s.heap Z b e)(zl:∀b,Z b→ ∃o,s.heap.get? b=some o) :
  wpAny (model prog w) A (call (.type "zip") [a,b]) (fun v s₁=>wpAny (model prog w) A (call (.type "dict") [v]) (Op Z s r) E s₁) E s:=by
 cases d with
 | list ks=>cases e with
  | tuple vs=>exact op_dz hs hh he ra.sqL rb.sqT zl
  | _=>exact nos he
 | tuple ks=>cases e with
  | tuple vs=>exact op_dz hs hh he ra.sqT rb.sqT zl
  | list vs=>exact op_dz hs hh he ra.sqT rb.sqL zl
  | _=>exact nos he
 | _=>exact nos he
end
end Mv
end
section
set_option backward.match.sparseCases false
namespace Lq
open PySem Mv
noncomputable abbrev S(l:aw) :D:=.str ⟨l.toArray⟩
noncomputable abbrev x_HalfError:Str:=⟨#[72,97,108,102,69,114,114,111,114]⟩
noncomputable abbrev x_NoNumber:Str:=⟨#[78,111,78,117,109,98,101,114]⟩
noncomputable abbrev x_NoList:Str:=⟨#[78,111,76,105,115,116]⟩
noncomputable abbrev x_NoFirst:Str:=⟨#[78,111,70,105,114,115,116]⟩
noncomputable abbrev x_NoDown:Str:=⟨#[78,111,68,111,119,110]⟩
noncomputable abbrev x_ByNought:Str:=⟨#[66,121,78,111,117,103,104,116]⟩
noncomputable abbrev x_TooGreat:Str:=⟨#[84,111,111,71,114,101,97,116]⟩
noncomputable abbrev x_TooLong:Str:=⟨#[84,111,111,76,111,110,103]⟩
noncomputable abbrev x_NotKept:Str:=⟨#[78,111,116,75,101,112,116]⟩
noncomputable def g_GREAT:D:=(.int 1000000000000000000)
noncomputable def g_HEAVIEST:D:=(.int 50)
noncomputable def g_SINGLES:D:=(.tuple [(S [100,111,119,110]),(S [102,105,114,115,116]),(S [114,101,115,116]),(S [101,109,112,116,121])])
noncomputable def g_TAME:D:=(.tuple [(S [102,105,114,115,116]),(S [114,101,115,116]),(S [100,111,119,110])])
noncomputable def f_room_left:Fn:=⟨2,5,
  [.iff (.cmp .lt (.var 1)<|.lit<|.int 1) [.ret<|.neg<|.lit<|.int 1] [],
  .iff (.not<|.bi (.isi .tup) [(.var 0)]) [.asg (.one 2)<|.bo true [(.bi (.isi .int) [(.var 0)]),(.not<|.bi (.isi .bool) [(.var 0)]),(.cmp2 .lt .lt (.neg<|.gl 0) (.var 0)<|.gl 0)],
   .iff (.var 2) [.ret<|.op2 .sub (.var 1)<|.lit<|.int 1] [.ret<|.neg<|.lit<|.int 1]] [],
  .asg (.one 3) (.op2 .sub (.var 1)<|.lit<|.int 1),
  .for_ (.one 4) .seq [(.var 0)] [.asg (.one 3)<|.call 0 [(.var 4),(.var 3)],
   .iff (.cmp .lt (.var 3)<|.lit<|.int 0) [.ret<|.neg<|.lit<|.int 1] []] [4],
  .ret (.var 3)],0,[]⟩
noncomputable def f_is_value:Fn:=⟨1,1,
  [.ret<|.cmp .ge (.call 0 [(.var 0),(.gl 1)])<|.lit<|.int 0],0,[]⟩
noncomputable def f_refuse:Fn:=⟨1,1,
  [.iff (.cmp .eq (.var 0)<|.lit<|S [78,111,78,117,109,98,101,114]) [.raise x_NoNumber] [],
  .iff (.cmp .eq (.var 0)<|.lit<|S [78,111,76,105,115,116]) [.raise x_NoList] [],
  .iff (.cmp .eq (.var 0)<|.lit<|S [78,111,70,105,114,115,116]) [.raise x_NoFirst] [],
  .iff (.cmp .eq (.var 0)<|.lit<|S [78,111,68,111,119,110]) [.raise x_NoDown] [],
  .iff (.cmp .eq (.var 0)<|.lit<|S [66,121,78,111,117,103,104,116]) [.raise x_ByNought] [],
  .raise x_TooGreat],0,[]⟩
noncomputable def f_fitting:Fn:=⟨1,1,
  [.iff (.not<|.call 1 [(.var 0)]) [.raise x_TooGreat] [],
  .ret (.var 0)],0,[]⟩
noncomputable def f_number_done:Fn:=⟨3,3,
  [.iff (.bo false [(.bi (.isi .tup) [(.var 1)]),(.bi (.isi .tup) [(.var 2)])]) [.raise x_NoNumber] [],
  .iff (.cmp .eq (.var 0)<|.lit<|S [112,108,117,115]) [.ret<|.op2 .add (.var 1)<|.var 2] [],
  .iff (.cmp .eq (.var 0)<|.lit<|S [109,105,110,117,115]) [.ret<|.op2 .sub (.var 1)<|.var 2] [],
  .iff (.cmp .eq (.var 0)<|.lit<|S [116,105,109,101,115]) [.ret<|.op2 .mul (.var 1)<|.var 2] [],
  .iff (.cmp .eq (.var 0)<|.lit<|S [108,101,115,115]) [.ret<|.bi .int [(.cmp .lt (.var 1)<|.var 2)]] [],
  .iff (.cmp .eq (.var 2)<|.lit<|.int 0) [.raise x_ByNought] [],
  .ret (.op2 .fdiv (.var 1)<|.var 2)],0,[]⟩
noncomputable def f_down:Fn:=⟨1,1,
  [.iff (.bi (.isi .tup) [(.var 0)]) [.raise x_NoNumber] [],
  .iff (.cmp .lt (.var 0)<|.lit<|.int 1) [.raise x_NoDown] [],
  .ret (.op2 .sub (.var 0)<|.lit<|.int 1)],0,[]⟩
noncomputable def f_list_done:Fn:=⟨2,2,
  [.iff (.not<|.bi (.isi .tup) [(.var 1)]) [.raise x_NoList] [],
  .iff (.cmp .eq (.var 0)<|.lit<|S [101,109,112,116,121]) [.ret<|.bi .int [(.cmp .eq (.bi .len [(.var 1)])<|.lit<|.int 0)]] [],
  .iff (.cmp .eq (.bi .len [(.var 1)])<|.lit<|.int 0) [.raise x_NoFirst] [],
  .iff (.cmp .eq (.var 0)<|.lit<|S [102,105,114,115,116]) [.ret<|.idx (.var 1)<|.lit<|.int 0] [],
  .ret (.slc (.var 1) (.lit<|.int 1)<|.lit .none)],0,[]⟩
noncomputable def f_joined:Fn:=⟨2,2,
  [.iff (.not<|.bi (.isi .tup) [(.var 1)]) [.raise x_NoList] [],
  .ret (.op2 .add (.tup [(.var 0)])<|.var 1)],0,[]⟩
noncomputable def f_done:Fn:=⟨2,2,
  [.iff (.cmp .eq (.var 0)<|.lit<|S [108,105,115,116]) [.ret<|.call 3 [(.bi .tuple [(.var 1)])]] [],
  .iff (.cmp .eq (.var 0)<|.lit<|S [100,111,119,110]) [.ret<|.call 5 [(.idx (.var 1)<|.lit<|.int 0)]] [],
  .iff (.cmp .isin (.var 0)<|.gl 2) [.ret<|.call 6 [(.var 0),(.idx (.var 1)<|.lit<|.int 0)]] [],
  .iff (.cmp .eq (.var 0)<|.lit<|S [115,97,109,101]) [.ret<|.bi .int [(.cmp .eq (.idx (.var 1)<|.lit<|.int 0)<|.idx (.var 1)<|.lit<|.int 1)]] [],
  .iff (.cmp .eq (.var 0)<|.lit<|S [106,111,105,110]) [.ret<|.call 3 [(.call 7 [(.idx (.var 1)<|.lit<|.int 0),(.idx (.var 1)<|.lit<|.int 1)])]] [],
  .ret (.call 3 [(.call 4 [(.var 0),(.idx (.var 1)<|.lit<|.int 0),(.idx (.var 1)<|.lit<|.int 1)])])],0,[]⟩
noncomputable def f_calls_in:Fn:=⟨1,4,
  [.iff (.cmp .isin (.idx (.var 0)<|.lit<|.int 0)<|.tup [(.lit<|S [118,97,108,117,101]),(.lit<|S [110,97,109,101]),(.lit<|S [114,101,102,117,115,101])]) [.ret<|.list []] [],
  .iff (.cmp .eq (.idx (.var 0)<|.lit<|.int 0)<|.lit<|S [105,102]) [.asg (.one 1)<|.slc (.var 0) (.lit<|.int 1)<|.lit .none] [.asg (.one 1)<|.idx (.var 0)<|.lit<|.int 2],
  .asg (.one 2) (.list []),
  .for_ (.one 3) .seq [(.var 1)] [.asg (.one 2)<|.op2 .add (.pl<|.var 2)<|.call 9 [(.var 3)]] [3],
  .iff (.cmp .eq (.idx (.var 0)<|.lit<|.int 0)<|.lit<|S [99,97,108,108]) [.app (.var 2)<|.var 0] [],
  .ret (.var 2)],0,[]⟩
noncomputable def f_is_tame:Fn:=⟨2,2,
  [.iff (.cmp .eq (.idx (.var 0)<|.lit<|.int 0)<|.lit<|S [110,97,109,101]) [.ret<|.cmp .isin (.idx (.var 0)<|.lit<|.int 1)<|.var 1] [],
  .iff (.cmp .eq (.idx (.var 0)<|.lit<|.int 0)<|.lit<|S [100,111]) [.ret<|.bo true [(.cmp .isin (.idx (.var 0)<|.lit<|.int 1)<|.gl 3),(.call 10 [(.idx (.idx (.var 0)<|.lit<|.int 2)<|.lit<|.int 0),(.var 1)])]] [],
  .ret (.cmp .isin (.idx (.var 0)<|.lit<|.int 0)<|.tup [(.lit<|S [118,97,108,117,101]),(.lit<|S [114,101,102,117,115,101])])],0,[]⟩
noncomputable def f_keeps:Fn:=⟨2,11,
  [.for_ (.tup [2,3,4]) .seq [(.var 0)] [.asg (.one 5)<|.comp (.var 9) (.tup [9,10]) .zip [(.var 3),(.idx (.var 1)<|.var 2)] [(.var 10)],
   .for_ (.one 6) .seq [(.call 9 [(.var 4)])] [.for_ (.tup [7,8]) .zip [(.idx (.var 6)<|.lit<|.int 2),(.idx (.var 1)<|.idx (.var 6)<|.lit<|.int 1)] [.iff (.bo true [(.var 8),(.not<|.call 10 [(.var 7),(.var 5)])]) [.ret<|.lit<|.bool false] []] [7,8]] [6,7,8]] [2,3,4,5,6,7,8],
  .ret (.lit<|.bool true)],0,[]⟩
noncomputable def f_worked_out:Fn:=⟨2,3,
  [.tryx [.asg (.one 2)<|.call 8 [(.var 0),(.var 1)]] [(x_NoNumber,[x_NoNumber],(.tuple [(S [114,101,102,117,115,101]),(S [78,111,78,117,109,98,101,114])])),(x_NoList,[x_NoList],(.tuple [(S [114,101,102,117,115,101]),(S [78,111,76,105,115,116])])),(x_NoFirst,[x_NoFirst],(.tuple [(S [114,101,102,117,115,101]),(S [78,111,70,105,114,115,116])])),(x_NoDown,[x_NoDown],(.tuple [(S [114,101,102,117,115,101]),(S [78,111,68,111,119,110])])),(x_ByNought,[x_ByNought],(.tuple [(S [114,101,102,117,115,101]),(S [66,121,78,111,117,103,104,116])])),(x_TooGreat,[x_TooGreat],(.tuple [(S [114,101,102,117,115,101]),(S [84,111,111,71,114,101,97,116])]))],
  .ret (.tup [(.lit<|S [118,97,108,117,101]),(.var 2)])],0,[]⟩
noncomputable def f_worked:Fn:=⟨3,15,
  [.iff (.not<|.call 11 [(.var 0),(.var 1)]) [.raise x_NotKept] [],
  .new 27 [7,8,9,10,11,12,13,14] [(.var 0),(.var 1)] [.exp<|.mcall 28 [7,8,9,10,11,12,13,14] [(.idx (.idx (.var 0)<|.lit<|.int 0)<|.lit<|.int 0),(.bi .tuple [(.var 2)])],
   .asg (.one 3) (.list []),
   .whl (.cmp .lt (.bi .len [(.pl<|.var 3)])<|.bi .len [(.pl<|.var 9)]) [.app (.var 3)<|.mcall 33 [7,8,9,10,11,12,13,14] [(.bi .len [(.pl<|.var 3)])]] [],
   .asg (.one 4) (.list []),
   .for_ (.tup [5,6]) .enum [(.var 9)] [.app (.var 4)<|.tup [(.op2 .add (.lit<|S [102])<|.bi .str [(.var 5)]),(.idx (.var 6)<|.lit<|.int 0),(.idx (.var 6)<|.lit<|.int 1)]] [5,6],
   .ret (.tup [(.bi .tuple [(.pl<|.var 3)]),(.var 4)])]],0,[]⟩
noncomputable def f_left_over:Fn:=⟨3,3,
  [.ret<|.idx (.call 13 [(.var 0),(.var 1),(.var 2)])<|.lit<|.int 0],0,[]⟩
noncomputable def f_cases:Fn:=⟨3,3,
  [.ret<|.idx (.call 13 [(.var 0),(.var 1),(.var 2)])<|.lit<|.int 1],0,[]⟩
noncomputable def f_run:Fn:=⟨3,11,
  [.new 34 [3,4,5,6,7,8,9,10] [(.var 0),(.var 2)] [.exp<|.mcall 35 [3,4,5,6,7,8,9,10] [(.idx (.idx (.var 0)<|.lit<|.int 0)<|.lit<|.int 1),(.idx (.idx (.var 0)<|.lit<|.int 0)<|.lit<|.int 2),(.var 1)],
   .whl (.cmp .nel (.pl<|.var 9)<|.list []) [.mst 40 [3,4,5,6,7,8,9,10] [8] []] [],
   .ret (.idx (.pl<|.var 10)<|.lit<|.int 0)]],0,[]⟩
noncomputable def f_l_cell_at:Fn:=⟨2,2,
  [.iff (.cmp .lt (.var 1)<|.bi .len [(.var 0)]) [.ret<|.idx (.var 0)<|.var 1] [],
  .ret (.lit<|.int 0)],0,[]⟩
noncomputable def f_l_same:Fn:=⟨2,3,
  [.iff (.bi (.isi .tup) [(.var 1)]) [.iff (.bo false [(.not<|.bi (.isi .tup) [(.var 0)]),(.cmp .ne (.bi .len [(.var 0)])<|.bi .len [(.var 1)])]) [.ret<|.lit<|.bool false] [],
   .for_ (.one 2) .range [(.bi .len [(.var 1)])] [.iff (.not<|.call 18 [(.idx (.var 0)<|.var 2),(.idx (.var 1)<|.var 2)]) [.ret<|.lit<|.bool false] []] [2],
   .ret (.lit<|.bool true)] [],
  .iff (.bi (.isi .str) [(.var 1)]) [.ret<|.bo true [(.bi (.isi .str) [(.var 0)]),(.cmp .eq (.var 0)<|.var 1)]] [],
  .ret (.bo true [(.bi (.isi .int) [(.var 0)]),(.not<|.bi (.isi .bool) [(.var 0)]),(.cmp .eq (.var 0)<|.var 1)])],0,[]⟩
noncomputable def f_l_names:Fn:=⟨1,8,
  [.iff (.cmp .eq (.op2 .mod (.var 0)<|.lit<|.int 9)<|.lit<|.int 8) [.asg (.one 1)<|.list [(.lit<|S [105,102,115]),(.lit<|S [108,105,115,116,120]),(.lit<|S [112,108,117,115,50]),(.lit<|S [114,101,102,117,115,101,115]),(.lit<|S [114,101,115,116,101,100]),(.lit<|S [100,111,119,110,115]),(.lit<|S [115,97,109,101,49]),(.lit<|S [106,111,105,110,115]),(.lit<|S [111,118,101,114,115]),(.lit<|S [102,105,114,115,116,115])],
   .asg (.one 1) (.op2 .add (.var 1)<|.list [(.lit<|S [101,109,112,116,121,120]),(.lit<|S [97,57])]),
   .ret (.comp (.idx (.var 1)<|.op2 .mod (.op2 .add (.op2 .fdiv (.var 0)<|.lit<|.int 9)<|.var 7)<|.lit<|.int 12) (.one 7) .range [(.lit<|.int 12)] [])] [],
  .asg (.one 2) (.op2 .add (.lit<|.int 1)<|.op2 .mod (.var 0)<|.lit<|.int 8),
  .asg (.one 3) (.op2 .mod (.op2 .fdiv (.var 0)<|.lit<|.int 8)<|.var 2),
  .asg (.one 1) (.lit<|S [97,98,99,100,101,102,103,104,105,106,107,108,109,110,111,112,113,114,115,116,117,118,119,120,121,122,48,49,50,51,52,53,54,55,56,57]),
  .asg (.one 4) (.list []),
  .for_ (.one 5) .range [(.lit<|.int 12)] [.asg (.one 6)<|.idx (.var 1)<|.op2 .mod (.op2 .add (.op2 .fdiv (.var 0)<|.lit<|.int 64)<|.var 5)<|.idx (.list [(.lit<|.int 26),(.lit<|.int 36)])<|.bi .int [(.cmp .gt (.var 3)<|.lit<|.int 0)],
   .app (.var 4) (.op2 .add (.op2 .add (.op2 .mul (.lit<|S [109])<|.var 3)<|.var 6)<|.op2 .mul (.lit<|S [109])<|.op2 .sub (.op2 .sub (.var 2)<|.lit<|.int 1)<|.var 3)] [5,6],
  .ret (.var 4)],0,[]⟩
noncomputable def f_l_power:Fn:=⟨1,4,
  [.asg (.one 1)<|.tup [(.lit<|S [110,97,109,101]),(.idx (.var 0)<|.lit<|.int 1)],
  .asg (.one 2) (.tup [(.lit<|S [99,97,108,108]),(.idx (.var 0)<|.lit<|.int 0),(.tup [(.tup [(.lit<|S [100,111]),(.lit<|S [100,111,119,110]),(.tup [(.var 1)])]),(.tup [(.lit<|S [110,97,109,101]),(.idx (.var 0)<|.lit<|.int 2)])])]),
  .asg (.one 3) (.tup [(.lit<|S [105,102]),(.var 1),(.tup [(.lit<|S [100,111]),(.lit<|S [116,105,109,101,115]),(.tup [(.tup [(.lit<|S [110,97,109,101]),(.idx (.var 0)<|.lit<|.int 2)]),(.var 2)])]),(.tup [(.lit<|S [118,97,108,117,101]),(.lit<|.int 1)])]),
  .ret (.tup [(.tup [(.idx (.var 0)<|.lit<|.int 0),(.tup [(.idx (.var 0)<|.lit<|.int 1),(.idx (.var 0)<|.lit<|.int 2)]),(.var 3)])])],0,[]⟩
noncomputable def f_l_sum:Fn:=⟨1,5,
  [.asg (.one 1)<|.tup [(.lit<|S [110,97,109,101]),(.idx (.var 0)<|.lit<|.int 1)],
  .asg (.one 2) (.tup [(.lit<|S [110,97,109,101]),(.idx (.var 0)<|.lit<|.int 2)]),
  .asg (.one 3) (.tup [(.lit<|S [100,111]),(.lit<|S [112,108,117,115]),(.tup [(.tup [(.lit<|S [100,111]),(.lit<|S [116,105,109,101,115]),(.tup [(.var 2),(.tup [(.lit<|S [110,97,109,101]),(.idx (.var 0)<|.lit<|.int 3)])])]),(.tup [(.lit<|S [100,111]),(.lit<|S [102,105,114,115,116]),(.tup [(.var 1)])])])]),
  .asg (.one 4) (.tup [(.lit<|S [99,97,108,108]),(.idx (.var 0)<|.lit<|.int 0),(.tup [(.tup [(.lit<|S [100,111]),(.lit<|S [114,101,115,116]),(.tup [(.var 1)])]),(.var 3),(.tup [(.lit<|S [110,97,109,101]),(.idx (.var 0)<|.lit<|.int 3)])])]),
  .ret (.tup [(.tup [(.idx (.var 0)<|.lit<|.int 0),(.tup [(.idx (.var 0)<|.lit<|.int 1),(.idx (.var 0)<|.lit<|.int 2),(.idx (.var 0)<|.lit<|.int 3)]),(.tup [(.lit<|S [105,102]),(.tup [(.lit<|S [100,111]),(.lit<|S [101,109,112,116,121]),(.tup [(.var 1)])]),(.var 2),(.var 4)])])])],0,[]⟩
noncomputable def f_l_told:Fn:=⟨3,3,
  [.tryx [.ret<|.call 16 [(.var 0),(.var 1),(.var 2)]] [(x_TooLong,[x_TooLong],(S [116,111,111,32,108,111,110,103])),(x_HalfError,[x_HalfError,x_NoNumber,x_NoList,x_NoFirst,x_NoDown,x_ByNought,x_TooGreat,x_TooLong,x_NotKept],(S [111,116,104,101,114]))]],0,[]⟩
noncomputable def f_l_of_power:Fn:=⟨3,12,
  [.asg (.one 3)<|.call 20 [(.var 0)],
  .asg (.one 4) (.call 14 [(.var 3),(.bi .dis1 [(.idx (.var 0)<|.lit<|.int 0),(.tup [(.lit<|.bool true),(.lit<|.bool false)])]),(.tup [(.var 1)])]),
  .asg (.one 5) (.comp (.slc (.var 10) (.lit<|.int 1)<|.lit .none) (.one 10) .seq [(.call 15 [(.var 3),(.bi .dis1 [(.idx (.var 0)<|.lit<|.int 0),(.tup [(.lit<|.bool true),(.lit<|.bool false)])]),(.tup [(.var 1)])])] []),
  .iff (.cmp .ne (.var 5)<|.comp (.tup [(.idx (.var 0)<|.lit<|.int 0),(.tup [(.op2 .sub (.var 1)<|.var 11)])]) (.one 11) .range [(.op2 .add (.var 1)<|.lit<|.int 1)] []) [.ret<|.lit<|.bool false] [],
  .asg (.one 6) (.tup [(.lit<|S [110,97,109,101]),(.idx (.var 0)<|.lit<|.int 2)]),
  .for_ (.one 7) .range [(.op2 .add (.var 1)<|.lit<|.int 1)] [.asg (.one 8)<|.tup [(.lit<|S [118,97,108,117,101]),(.lit<|.int 1)],
   .iff (.cmp .lt (.var 7)<|.var 1) [.asg (.one 8)<|.tup [(.lit<|S [100,111]),(.lit<|S [116,105,109,101,115]),(.tup [(.var 6),(.tup [(.lit<|S [99,97,108,108]),(.idx (.idx (.var 4)<|.op2 .add (.var 7)<|.lit<|.int 1)<|.lit<|.int 0),(.tup [(.var 6)])])])]] [],
   .iff (.not<|.call 18 [(.slc (.idx (.var 4)<|.var 7) (.lit<|.int 1)<|.lit .none),(.tup [(.tup [(.idx (.var 0)<|.lit<|.int 2)]),(.var 8)])]) [.ret<|.lit<|.bool false] []] [7,8],
  .asg (.one 9) (.lit<|.int 1),
  .for_ (.one 7) .range [(.var 1)] [.asg (.one 9)<|.op2 .mul (.var 9)<|.var 2] [7],
  .iff (.cmp .ne (.bi .len [(.var 4)])<|.op2 .add (.var 1)<|.lit<|.int 1) [.ret<|.lit<|.bool false] [],
  .iff (.cmp .ge (.bi .abs [(.var 9)])<|.op2 .pow (.lit<|.int 10)<|.lit<|.int 18) [.ret<|.cmp .eq (.call 22 [(.var 4),(.tup [(.var 2)]),(.var 1)])<|.lit<|S [111,116,104,101,114]] [],
  .iff (.cmp .ne (.call 22 [(.var 4),(.tup [(.var 2)]),(.var 1)])<|.var 9) [.ret<|.lit<|.bool false] [],
  .ret (.bo false [(.cmp .eq (.var 1)<|.lit<|.int 0),(.cmp .eq (.call 22 [(.var 4),(.tup [(.var 2)]),(.op2 .sub (.var 1)<|.lit<|.int 1)])<|.lit<|S [116,111,111,32,108,111,110,103])])],0,[]⟩
noncomputable def f_l_of_sum:Fn:=⟨3,13,
  [.asg (.one 3)<|.call 21 [(.var 0)],
  .asg (.one 4) (.bi .dis1 [(.idx (.var 0)<|.lit<|.int 0),(.tup [(.lit<|.bool true),(.lit<|.bool false),(.lit<|.bool false)])]),
  .asg (.one 5) (.call 14 [(.var 3),(.var 4),(.tup [(.var 1)])]),
  .asg (.one 6) (.lit<|.int 0),
  .asg (.one 7) (.lit<|.bool true),
  .for_ (.one 8) .range [(.bi .len [(.var 1)])] [.asg (.one 9)<|.tup [(.lit<|S [100,111]),(.lit<|S [116,105,109,101,115]),(.tup [(.tup [(.lit<|S [110,97,109,101]),(.idx (.var 0)<|.lit<|.int 2)]),(.tup [(.lit<|S [110,97,109,101]),(.idx (.var 0)<|.lit<|.int 3)])])],
   .asg (.one 10) (.tup [(.lit<|S [100,111]),(.lit<|S [112,108,117,115]),(.tup [(.var 9),(.tup [(.lit<|S [118,97,108,117,101]),(.idx (.var 1)<|.var 8)])])]),
   .asg (.one 11) (.tup [(.lit<|S [99,97,108,108]),(.idx (.idx (.var 5)<|.op2 .add (.var 8)<|.lit<|.int 1)<|.lit<|.int 0),(.tup [(.var 10),(.tup [(.lit<|S [110,97,109,101]),(.idx (.var 0)<|.lit<|.int 3)])])]),
   .iff (.not<|.call 18 [(.slc (.idx (.var 5)<|.var 8) (.lit<|.int 1)<|.lit .none),(.tup [(.tup [(.idx (.var 0)<|.lit<|.int 2),(.idx (.var 0)<|.lit<|.int 3)]),(.var 11)])]) [.ret<|.lit<|.bool false] [],
   .asg (.one 7) (.bo true [(.var 7),(.cmp .lt (.bi .abs [(.op2 .mul (.var 6)<|.var 2)])<|.op2 .pow (.lit<|.int 10)<|.lit<|.int 18),(.cmp .lt (.bi .abs [(.op2 .add (.op2 .mul (.var 6)<|.var 2)<|.idx (.var 1)<|.var 8)])<|.op2 .pow (.lit<|.int 10)<|.lit<|.int 18)]),
   .asg (.one 6) (.op2 .add (.op2 .mul (.var 6)<|.var 2)<|.idx (.var 1)<|.var 8)] [8,9,10,11],
  .asg (.one 12) (.tup [(.tup [(.idx (.var 0)<|.lit<|.int 2),(.idx (.var 0)<|.lit<|.int 3)]),(.tup [(.lit<|S [110,97,109,101]),(.idx (.var 0)<|.lit<|.int 2)])]),
  .iff (.bo false [(.cmp .ne (.bi .len [(.var 5)])<|.op2 .add (.bi .len [(.var 1)])<|.lit<|.int 1),(.not<|.call 18 [(.slc (.idx (.var 5)<|.neg<|.lit<|.int 1) (.lit<|.int 1)<|.lit .none),(.var 12)])]) [.ret<|.lit<|.bool false] [],
  .ret (.cmp .eq (.call 22 [(.var 5),(.tup [(.lit<|.int 0),(.var 2)]),(.bi .len [(.var 1)])])<|.idx (.list [(.lit<|S [111,116,104,101,114]),(.var 6)])<|.bi .int [(.var 7)])],0,[]⟩
noncomputable def f_l_count:Fn:=⟨4,10,
  [.asg (.one 4)<|.tup [(.lit<|S [110,97,109,101]),(.idx (.var 0)<|.lit<|.int 1)],
  .asg (.one 5) (.tup [(.lit<|S [99,97,108,108]),(.idx (.var 0)<|.lit<|.int 0),(.tup [(.tup [(.lit<|S [100,111]),(.lit<|S [100,111,119,110]),(.tup [(.var 4)])])])]),
  .asg (.one 6) (.tup [(.lit<|S [105,102]),(.var 4),(.idx (.list [(.var 5),(.tup [(.lit<|S [100,111]),(.lit<|S [112,108,117,115]),(.tup [(.tup [(.lit<|S [118,97,108,117,101]),(.lit<|.int 1)]),(.var 5)])])])<|.bi .int [(.var 3)]),(.tup [(.lit<|S [118,97,108,117,101]),(.lit<|.int 7)])]),
  .asg (.one 7) (.tup [(.tup [(.idx (.var 0)<|.lit<|.int 0),(.tup [(.idx (.var 0)<|.lit<|.int 1)]),(.var 6)])]),
  .asg (.one 8) (.call 14 [(.var 7),(.bi .dis1 [(.idx (.var 0)<|.lit<|.int 0),(.tup [(.var 2)])]),(.op2 .mul (.tup [(.var 1)])<|.bi .int [(.var 2)])]),
  .asg (.one 9) (.op2 .mul (.tup [(.var 1)])<|.bi .int [(.not<|.var 2)]),
  .iff (.bo false [(.cmp .ne (.bi .len [(.var 8)])<|.op2 .add (.lit<|.int 1)<|.op2 .mul (.var 1)<|.bi .int [(.var 2)]),(.cmp .ne (.call 22 [(.var 8),(.var 9),(.var 1)])<|.op2 .add (.lit<|.int 7)<|.op2 .mul (.var 1)<|.bi .int [(.var 3)])]) [.ret<|.lit<|.bool false] [],
  .ret (.cmp .eq (.call 22 [(.var 8),(.var 9),(.op2 .sub (.var 1)<|.lit<|.int 1)])<|.lit<|S [116,111,111,32,108,111,110,103])],0,[]⟩
noncomputable def f_law:Fn:=⟨1,7,
  [.asg (.one 1)<|.call 19 [(.call 17 [(.var 0),(.lit<|.int 0)])],
  .asg (.one 2) (.op2 .sub (.op2 .mod (.call 17 [(.var 0),(.lit<|.int 1)])<|.lit<|.int 19)<|.lit<|.int 9),
  .asg (.one 3) (.op2 .mod (.call 17 [(.var 0),(.lit<|.int 2)])<|.lit<|.int 25),
  .iff (.cmp .eq (.op2 .mod (.op2 .fdiv (.call 17 [(.var 0),(.lit<|.int 3)])<|.lit<|.int 12)<|.lit<|.int 12)<|.lit<|.int 1) [.asg (.one 4)<|.call 17 [(.var 0),(.lit<|.int 1)],
   .asg (.one 3) (.op2 .add (.idx (.list [(.lit<|.int 200),(.lit<|.int 1100)])<|.bi .int [(.cmp .eq (.op2 .mod (.var 4)<|.lit<|.int 2)<|.lit<|.int 0)])<|.op2 .mod (.call 17 [(.var 0),(.lit<|.int 2)])<|.lit<|.int 150),
   .ret (.call 25 [(.var 1),(.var 3),(.cmp .eq (.op2 .mod (.var 4)<|.lit<|.int 2)<|.lit<|.int 1),(.cmp .gt (.op2 .mod (.op2 .fdiv (.var 4)<|.lit<|.int 2)<|.lit<|.int 3)<|.lit<|.int 0)])] [],
  .iff (.cmp .eq (.op2 .mod (.call 17 [(.var 0),(.lit<|.int 3)])<|.lit<|.int 2)<|.lit<|.int 0) [.ret<|.call 23 [(.var 1),(.var 3),(.var 2)]] [],
  .asg (.one 5) (.list []),
  .for_ (.one 6) .range [(.op2 .mul (.lit<|.int 2)<|.var 3)] [.asg (.one 4)<|.op2 .add (.call 17 [(.var 0),(.op2 .add (.lit<|.int 4)<|.op2 .mod (.var 6)<|.lit<|.int 50)])<|.op2 .fdiv (.var 6)<|.lit<|.int 50,
   .app (.var 5) (.idx (.list [(.op2 .sub (.op2 .mod (.var 4)<|.lit<|.int 19)<|.lit<|.int 9),(.op2 .mod (.var 4)<|.op2 .pow (.lit<|.int 10)<|.lit<|.int 17)])<|.bi .int [(.cmp .eq (.op2 .mod (.op2 .fdiv (.call 17 [(.var 0),(.lit<|.int 3)])<|.lit<|.int 2)<|.lit<|.int 6)<|.lit<|.int 1)])] [4,6],
  .ret (.call 24 [(.var 1),(.bi .tuple [(.pl<|.var 5)]),(.op2 .mod (.var 2)<|.lit<|.int 4)])],0,[]⟩
noncomputable def f_mak_init:Fn:=⟨10,14,
  [.asg (.one 0)<|.bi .dict0 [],
  .for_ (.tup [10,11,12]) .seq [(.var 8)] [.setI (.var 0) (.var 10)<|.tup [(.var 11),(.var 12)]] [10,11,12],
  .asg (.one 1) (.var 9),
  .asg (.one 2) (.list []),
  .tab0 3],8,[0,1,2,3]⟩
noncomputable def f_mak_name_of:Fn:=⟨10,12,
  [.asg (.one 10)<|.tup [(.var 8),(.var 9)],
  .iff (.tin 3<|.var 10) [.tset 3 (.var 10)<|.bi .len [(.pl<|.var 2)],
   .app (.var 2) (.var 10)] [],
  .ret (.op2 .add (.lit<|S [102])<|.bi .str [(.tget 3<|.var 10)])],8,[]⟩
noncomputable def f_mak_do:Fn:=⟨11,17,
  [.asg (.one 11)<|.list [],
  .asg (.one 12) (.lit<|.bool false),
  .for_ (.one 13) .seq [(.var 9)] [.asg (.one 14)<|.mcall 32 [0,1,2,3,4,5,6,7] [(.var 13),(.var 10)],
   .iff (.bo true [(.cmp .eq (.idx (.var 14)<|.lit<|.int 0)<|.lit<|S [114,101,102,117,115,101]),(.not<|.var 12)]) [.ret<|.var 14] [],
   .asg (.one 12) (.bo false [(.var 12),(.cmp .ne (.idx (.var 14)<|.lit<|.int 0)<|.lit<|S [118,97,108,117,101])]),
   .app (.var 11) (.var 14)] [13,14],
  .iff (.var 12) [.ret<|.tup [(.lit<|S [100,111]),(.var 8),(.bi .tuple [(.pl<|.var 11)])]] [],
  .ret (.call 12 [(.var 8),(.comp (.idx (.var 16)<|.lit<|.int 1) (.one 16) .seq [(.var 11)] [])])],8,[]⟩
noncomputable def f_mak_call:Fn:=⟨11,18,
  [.asg (.one 11)<|.list [],
  .asg (.one 12) (.list []),
  .asg (.one 13) (.lit<|.bool false),
  .for_ (.tup [14,15]) .zip [(.var 9),(.idx (.var 1)<|.var 8)] [.asg (.one 16)<|.mcall 32 [0,1,2,3,4,5,6,7] [(.var 14),(.var 10)],
   .iff (.bo true [(.cmp .eq (.idx (.var 16)<|.lit<|.int 0)<|.lit<|S [114,101,102,117,115,101]),(.not<|.var 13)]) [.ret<|.var 16] [],
   .iff (.bo true [(.var 15),(.cmp .eq (.idx (.var 16)<|.lit<|.int 0)<|.lit<|S [114,101,102,117,115,101])]) [.ret<|.tup [(.lit<|S [100,111]),(.lit<|S [108,105,115,116]),(.bi .tuple [(.op2 .add (.pl<|.var 12)<|.list [(.var 16)])])]] [],
   .iff (.var 15) [.app (.var 11)<|.idx (.var 16)<|.lit<|.int 1] [.app (.var 12)<|.var 16,
    .asg (.one 13) (.bo false [(.var 13),(.cmp .ne (.idx (.var 16)<|.lit<|.int 0)<|.lit<|S [118,97,108,117,101])])]] [14,15,16],
  .ret (.tup [(.lit<|S [99,97,108,108]),(.mcall 28 [0,1,2,3,4,5,6,7] [(.var 8),(.bi .tuple [(.pl<|.var 11)])]),(.bi .tuple [(.pl<|.var 12)])])],8,[]⟩
noncomputable def f_mak_choose:Fn:=⟨10,12,
  [.asg (.one 10)<|.mcall 32 [0,1,2,3,4,5,6,7] [(.idx (.var 8)<|.lit<|.int 1),(.var 9)],
  .iff (.cmp .eq (.idx (.var 10)<|.lit<|.int 0)<|.lit<|S [114,101,102,117,115,101]) [.ret<|.var 10] [],
  .iff (.cmp .ne (.idx (.var 10)<|.lit<|.int 0)<|.lit<|S [118,97,108,117,101]) [.ret<|.tup [(.lit<|S [105,102]),(.var 10),(.mcall 32 [0,1,2,3,4,5,6,7] [(.idx (.var 8)<|.lit<|.int 2),(.var 9)]),(.mcall 32 [0,1,2,3,4,5,6,7] [(.idx (.var 8)<|.lit<|.int 3),(.var 9)])]] [],
  .iff (.bi (.isi .tup) [(.idx (.var 10)<|.lit<|.int 1)]) [.ret<|.tup [(.lit<|S [114,101,102,117,115,101]),(.lit<|S [78,111,78,117,109,98,101,114])]] [],
  .iff (.cmp .eq (.idx (.var 10)<|.lit<|.int 1)<|.lit<|.int 0) [.ret<|.mcall 32 [0,1,2,3,4,5,6,7] [(.idx (.var 8)<|.lit<|.int 3),(.var 9)]] [],
  .ret (.mcall 32 [0,1,2,3,4,5,6,7] [(.idx (.var 8)<|.lit<|.int 2),(.var 9)])],8,[]⟩
noncomputable def f_mak_left:Fn:=⟨10,12,
  [.asg (.one 10)<|.idx (.var 8)<|.lit<|.int 0,
  .iff (.bo false [(.cmp .eq (.var 10)<|.lit<|S [118,97,108,117,101]),(.cmp .eq (.var 10)<|.lit<|S [114,101,102,117,115,101])]) [.ret<|.var 8] [],
  .iff (.cmp .eq (.var 10)<|.lit<|S [110,97,109,101]) [.iff (.cmp .isin (.idx (.var 8)<|.lit<|.int 1)<|.var 9) [.ret<|.tup [(.lit<|S [118,97,108,117,101]),(.idx (.var 9)<|.idx (.var 8)<|.lit<|.int 1)]] [],
   .ret (.var 8)] [],
  .iff (.cmp .eq (.var 10)<|.lit<|S [105,102]) [.ret<|.mcall 31 [0,1,2,3,4,5,6,7] [(.var 8),(.var 9)]] [],
  .iff (.cmp .eq (.var 10)<|.lit<|S [100,111]) [.ret<|.mcall 29 [0,1,2,3,4,5,6,7] [(.idx (.var 8)<|.lit<|.int 1),(.idx (.var 8)<|.lit<|.int 2),(.var 9)]] [],
  .ret (.mcall 30 [0,1,2,3,4,5,6,7] [(.idx (.var 8)<|.lit<|.int 1),(.idx (.var 8)<|.lit<|.int 2),(.var 9)])],8,[]⟩
noncomputable def f_mak_function:Fn:=⟨9,21,
  [.asg (.tup [9,10])<|.idx (.pl<|.var 2)<|.var 8,
  .asg (.tup [11,12]) (.idx (.pl<|.var 0)<|.var 9),
  .asg (.one 13) (.idx (.var 1)<|.var 9),
  .asg (.one 14) (.bi .dzip [(.comp (.var 17) (.tup [17,18]) .zip [(.var 11),(.var 13)] [(.var 18)]),(.var 10)]),
  .asg (.one 15) (.bi .tuple [(.comp (.var 19) (.tup [19,20]) .zip [(.var 11),(.var 13)] [(.not<|.var 20)])]),
  .ret (.tup [(.op2 .add (.lit<|S [102])<|.bi .str [(.var 8)]),(.var 15),(.mcall 32 [0,1,2,3,4,5,6,7] [(.var 12),(.var 14)])])],8,[]⟩
noncomputable def f_mac_init:Fn:=⟨10,14,
  [.asg (.one 0)<|.bi .dict0 [],
  .for_ (.tup [10,11,12]) .seq [(.var 8)] [.setI (.var 0) (.var 10)<|.tup [(.var 11),(.var 12)]] [10,11,12],
  .asg (.one 4) (.var 9),
  .asg (.one 5) (.lit<|.int 0),
  .asg (.one 6) (.list []),
  .asg (.one 7) (.list [])],8,[0,4,5,6,7]⟩
noncomputable def f_mac_enter:Fn:=⟨11,12,
  [.app (.var 6)<|.tup [(.lit<|S [108,111,111,107]),(.var 9),(.bi .dzip [(.var 8),(.var 10)])]],8,[]⟩
noncomputable def f_mac_look:Fn:=⟨10,13,
  [.asg (.one 10)<|.idx (.var 8)<|.lit<|.int 0,
  .iff (.cmp .eq (.var 10)<|.lit<|S [118,97,108,117,101]) [.app (.var 7)<|.idx (.var 8)<|.lit<|.int 1] [.iff (.cmp .eq (.var 10)<|.lit<|S [110,97,109,101]) [.app (.var 7)<|.idx (.var 9)<|.idx (.var 8)<|.lit<|.int 1] [.iff (.cmp .eq (.var 10)<|.lit<|S [114,101,102,117,115,101]) [.exp<|.call 2 [(.idx (.var 8)<|.lit<|.int 1)]] [.iff (.cmp .eq (.var 10)<|.lit<|S [105,102]) [.app (.var 6)<|.tup [(.var 10),(.var 8),(.var 9)],
      .app (.var 6) (.tup [(.lit<|S [108,111,111,107]),(.idx (.var 8)<|.lit<|.int 1),(.var 9)])] [.app (.var 6)<|.tup [(.var 10),(.var 8),(.var 9)],
      .for_ (.one 11) .rev [(.idx (.var 8)<|.lit<|.int 2)] [.app (.var 6)<|.tup [(.lit<|S [108,111,111,107]),(.var 11),(.var 9)]] [11]]]]]],8,[]⟩
noncomputable def f_mac_taken:Fn:=⟨9,12,
  [.asg (.one 9)<|.list [],
  .for_ (.one 10) .range [(.var 8)] [.app (.var 9)<|.pop<|.var 7] [10],
  .rev (.var 9),
  .ret (.var 9)],8,[]⟩
noncomputable def f_mac_choose:Fn:=⟨10,12,
  [.asg (.one 10)<|.pop<|.var 7,
  .iff (.bi (.isi .tup) [(.var 10)]) [.raise x_NoNumber] [],
  .iff (.cmp .eq (.var 10)<|.lit<|.int 0) [.app (.var 6)<|.tup [(.lit<|S [108,111,111,107]),(.idx (.var 8)<|.lit<|.int 3),(.var 9)]] [.app (.var 6)<|.tup [(.lit<|S [108,111,111,107]),(.idx (.var 8)<|.lit<|.int 2),(.var 9)]]],8,[]⟩
noncomputable def f_mac_call:Fn:=⟨10,13,
  [.asg (.one 5)<|.op2 .add (.var 5)<|.lit<|.int 1,
  .iff (.cmp .gt (.var 5)<|.var 4) [.raise x_TooLong] [],
  .asg (.tup [10,11]) (.idx (.pl<|.var 0)<|.var 8),
  .exp (.mcall 35 [0,1,2,3,4,5,6,7] [(.var 10),(.var 11),(.var 9)])],8,[5]⟩
noncomputable def f_mac_step:Fn:=⟨8,12,
  [.asg (.tup [8,9,10])<|.pop<|.var 6,
  .iff (.cmp .eq (.var 8)<|.lit<|S [108,111,111,107]) [.exp<|.mcall 36 [0,1,2,3,4,5,6,7] [(.var 9),(.var 10)]] [.iff (.cmp .eq (.var 8)<|.lit<|S [105,102]) [.exp<|.mcall 38 [0,1,2,3,4,5,6,7] [(.var 9),(.var 10)]] [.iff (.cmp .eq (.var 8)<|.lit<|S [100,111]) [.app (.var 7)<|.call 8 [(.idx (.var 9)<|.lit<|.int 1),(.mcall 37 [0,1,2,3,4,5,6,7] [(.bi .len [(.idx (.var 9)<|.lit<|.int 2)])])]] [.mst 39 [0,1,2,3,4,5,6,7] [5] [(.idx (.var 9)<|.lit<|.int 1),(.mcall 37 [0,1,2,3,4,5,6,7] [(.bi .len [(.idx (.var 9)<|.lit<|.int 2)])])]]]]],8,[5]⟩
noncomputable def P:Pr:=⟨[g_GREAT,g_HEAVIEST,g_SINGLES,g_TAME],[f_room_left,f_is_value,f_refuse,f_fitting,f_number_done,f_down,f_list_done,f_joined,f_done,f_calls_in,f_is_tame,f_keeps,f_worked_out,f_worked,f_left_over,f_cases,f_run,f_l_cell_at,f_l_same,f_l_names,f_l_power,f_l_sum,f_l_told,f_l_of_power,f_l_of_sum,f_l_count,f_law,f_mak_init,f_mak_name_of,f_mak_do,f_mak_call,f_mak_choose,f_mak_left,f_mak_function,f_mac_init,f_mac_enter,f_mac_look,f_mac_taken,f_mac_choose,f_mac_call,f_mac_step]⟩
noncomputable def nss:List ax:=[(["thing","room","is_number","left","part"] :ax),
 (["thing"] :ax),
 (["word"] :ax),
 (["thing"] :ax),
 (["operation","one","other"] :ax),
 (["value"] :ax),
 (["operation","value"] :ax),
 (["value","other"] :ax),
 (["operation","values"] :ax),
 (["expression","parts","found","part"] :ax),
 (["expression","known"] :ax),
 (["program","sorting","name","parameters","body","known","call","part","is_known"] :ax),
 (["operation","values","value"] :ax),
 (["program","sorting","known","functions","triples","number","case"] :ax),
 (["program","sorting","known"] :ax),
 (["program","sorting","known"] :ax),
 (["program","inputs","most"] :ax),
 (["_law_script","_law_k"] :ax),
 (["_law_found","_law_due","_law_k"] :ax),
 (["_law_cell","_law_some","_law_size","_law_place","_law_found","_law_k","_law_sign"] :ax),
 (["_law_names_here","_law_n","_law_more","_law_body"] :ax),
 (["_law_names_here","_law_rows","_law_so_far","_law_grown","_law_more"] :ax),
 (["_law_left","_law_inputs","_law_most"] :ax),
 (["_law_names_here","_law_many","_law_base","_law_program","_law_left","_law_told_here","_law_x","_law_k","_law_body","_law_due"] :ax),
 (["_law_names_here","_law_rows","_law_base","_law_program","_law_sorting","_law_left","_law_total","_law_good","_law_k","_law_product","_law_grown","_law_body","_law_last"] :ax),
 (["_law_names_here","_law_many","_law_known","_law_deep","_law_n","_law_more","_law_body","_law_program","_law_left","_law_inputs"] :ax),
 (["_law_script","_law_names_here","_law_base","_law_many","_law_cell","_law_rows","_law_k"] :ax),
 (["program","sorting","name","parameters","body"] :ax),
 (["name","known","case"] :ax),
 (["operation","parts","held","found","is_open","part","here"] :ax),
 (["name","parts","held","known","others","is_open","part","is_known","here"] :ax),
 (["expression","held","test"] :ax),
 (["expression","held","word"] :ax),
 (["number","name","known","parameters","body","flags","held","others"] :ax),
 (["program","most","name","parameters","body"] :ax),
 (["parameters","body","values"] :ax),
 (["expression","held","word","part"] :ax),
 (["many","found","turn"] :ax),
 (["expression","held","test"] :ax),
 (["name","values","parameters","body"] :ax),
 (["word","expression","held"] :ax)]
noncomputable def gls:ax:=["GREAT","HEAVIEST","SINGLES","TAME"]
noncomputable def cls:ax:=[x_HalfError,x_NoNumber,x_NoList,x_NoFirst,x_NoDown,x_ByNought,x_TooGreat,x_TooLong,x_NotKept]
noncomputable def hcs:ax:=[x_NoNumber,x_NoList,x_NoFirst,x_NoDown,x_ByNought,x_TooGreat,x_TooLong,x_HalfError]
noncomputable def ans:ax:=["functions","sorting","found","numbers","most","calls","tasks","told"]
end Lq
end
section
set_option backward.match.sparseCases false
namespace Mv
open PySem PyProof.Rows
structure Tb where
 fn:List DefRec
 gl:ax
 cl:ax:=[]
 hc:ax:=[]
 hb:Str→ax
 m0:Nat:=0
 m1:Nat:=0
 rb:List aw:=[]
 cr:Nat→Option ClsRec
 an:ax:=[]
noncomputable def clN(x:Str) :Option ClsRec:=(clssOf Hq.view []).find? fun c=>c.name==x
noncomputable def clM(c:Option ClsRec) :List DefRec:=(c.elim [] (·.meths)).map (fun m=>⟨m.name,m.params,m.body,m.scope,default⟩)
noncomputable def cName(k:Nat) :Str:=if k=0 then "Making" else "Machine"
noncomputable def tb:Tb:=⟨recsOf Hq.view++(clM (clN<|cName 0)++clM (clN<|cName 1)),Lq.gls,Lq.cls,Lq.hcs,fun c=>if c=Lq.x_HalfError then Lq.cls else [c],27,34,(Lq.P.fns.drop 27).map (·.rb),fun k=>clN<|cName k,Lq.ans⟩
noncomputable def kf(f:Nat) :Nat:=if f<tb.m1 then 0 else 1
noncomputable def mi(k:Nat) :Nat:=if k=0 then tb.m0 else tb.m1
structure Sc where
 names:List (Str×NameKind)
 vars:List (Str×Nat)
 hi:Nat
 sn:Str:=⟨#[]⟩
 ats:List (Str×Nat):=[]
 k:Nat:=0
noncomputable def Sc.isG(V:Sc)(x:Str) :Prop:=V.names.lookup x=some .globalImplicit∧(x == ("__debug__" :Str))=false
noncomputable def Sc.isV(V:Sc)(x:Str)(i:Nat) :Prop:=V.vars.lookup x=some i∧(x == ("__debug__" :Str))=false
structure Sc.isA(V:Sc)(x a:Str)(i:Nat) :Prop where
 sn:x=V.sn
 at':V.ats.lookup a=some i
 st:a∈(tb.cr V.k).elim [] (·.statics)
 db:(x == ("__debug__" :Str))=false
noncomputable def Sc.as(V:Sc) :aw:=V.ats.map (·.2)
inductive PE(V:Sc) :Expr→Nat→Prop
 | nm {x:Str} {pos:Pos} {i:Nat} :V.isV x i→PE V (.Name x pos) i
 | atr {x a:Str} {p pos:Pos} {i:Nat} :V.isA x a i→PE V (.Attribute (.Name x p) a pos) i
inductive ConstIs:Const→D→Prop
 | none:ConstIs .none .none
 | bool (b:Bool) :ConstIs (.bool b) (.bool b)
 | int (i:Int) :ConstIs (.int i) (.int i)
 | str (x:Str) :PyData.strOk x=true→x.cps.size≤Sz→ConstIs (.str x) (.str x)
noncomputable def opOf:Op2→Operator
 | .add=>.Add | .sub=>.Sub | .mul=>.Mult | .fdiv=>.FloorDiv | .mod=>.Mod | .pow=>.Pow
noncomputable def bOp(j:Bool) :BoolOp:=match j with
 | true=>.And
 | false=>.Or
mutual
noncomputable def bvE:Ex→aw
 | .lit _=>[] | .gl _=>[] | .var _=>[] | .pl _=>[] | .pop _=>[]
 | .ite c a b=>bvE c++bvE a++bvE b
 | .mcall _ _ es=>bvEs es
 | .tin _ e=>bvE e
 | .tget _ e=>bvE e
 | .tup es=>bvEs es
 | .list es=>bvEs es
 | .op2 _ a b=>bvE a++bvE b
 | .neg a=>bvE a
 | .not a=>bvE a
 | .cmp _ a b=>bvE a++bvE b
 | .cmp2 _ _ a b c=>bvE a++bvE b++bvE c
 | .bo _ es=>bvEs es
 | .idx a i=>bvE a++bvE i
 | .slc a l h=>bvE a++bvE l++bvE h
 | .call _ es=>bvEs es
 | .bi _ es=>bvEs es
 | .comp e t _ src cs=>tgtVars t++bvE e++bvEs src++bvEs cs
noncomputable def bvEs:List Ex→aw
 | []=>[]
 | e::es=>bvE e++bvEs es
end
noncomputable def plX:Ex→aw
 | .pl (.var i)=>[i]
 | _=>[]
noncomputable def Apart(x:Ex)(bv:aw) :Prop:= ∀i∈plX x,i∉bv
noncomputable def biName:Bi→Str
 | .len=>"len" | .isi _=>"isinstance" | .abs=>"abs" | .int=>"int" | .tuple=>"tuple" | .list=>"list" | .str=>"str"
 | _=>"len"
noncomputable def Bi.one:Bi→Bool
 | .len=>true | .abs=>true | .int=>true | .tuple=>true | .list=>true | .str=>true
 | _=>false
noncomputable def baseB:Expr→Bool
 | .Name _ _=>true
 | .Constant _ _ _=>true
 | _=>false
inductive KS:List (Option Expr)→ax→Prop
 | nil:KS [] []
 | cons {k:Str} {kk:Nat} {p:Pos} {es:List (Option Expr)} {ks:ax} :KS es ks→KS (some (.Constant (.str k) kk p)::es) (k::ks)
noncomputable def KOk(ks:ax) :Prop:= ∀k∈ks,PyData.strOk k=true∧k.cps.size≤Sz
noncomputable def Ex.noPl:Ex→Bool
 | .pl _=>false
 | _=>true
inductive BX(V:Sc) :Expr→Bi→az→Prop
 | count {apos pos:Pos} {a k:Expr} :baseB a=true→baseB k=true→(apos.endLine == pos.line)=true→BX V (.Call (.Attribute a "count" apos) [k] [] pos) .count [a,k]
 | dzip {p p' pos pos':Pos} {a b:Expr} :V.isG "dict"→V.isG "zip"→BX V (.Call (.Name "dict" p) [.Call (.Name "zip" p') [a,b] [] pos'] [] pos) .dzip [a,b]
 | dict0 {pos:Pos} :BX V (.Dict [] [] pos) .dict0 []
noncomputable def compSc(scope:Scope)(V:Sc)(vs:ax)(i:Nat) :Sc:=⟨scope.names,vs.zipIdx i++V.vars.filter fun p=>decide<|scope.names.lookup p.1=some .free,i+vs.length,⟨#[]⟩,[],V.k⟩
inductive CG(i:Nat) :Expr→ax→Tgt→Prop
 | one {v:Str} {p:Pos} :CG i (.Name v p) [v] (.one i)
 | two {a b:Str} {pa pb p:Pos} {k:Nat} :CG i (.Tuple [.Name a pa,.Name b pb] k p) [a,b] (.tup [i,i+1])
structure CompOk(scope:Scope)(V:Sc)(vs:ax) :Prop where
 kind:scope.kind = .function
 names:∀x∈scope.names,x.2 = .local→scope.names.lookup x.1=some .local
 cell:∀x∈scope.names,x.2≠ .cell
 loc:∀v∈vs,scope.names.lookup v=some .local
 vnd:vs.Nodup
 free:∀x∈scope.names,x.2=.free→scope.names.lookup x.1=some .free∧(x.1 == ("__classdict__" :Str))=false∧(∃i,V.vars.lookup x.1=some i)∧(V.names.lookup x.1=some .cell∨V.names.lookup x.1=some .free)
 nodup:((scope.names.filter fun x=>x.2 == .free).map (·.1)).Nodup
noncomputable def Itk.pairs:Itk→Bool
 | .zip=>true
 | .enum=>true
 | _=>false
inductive Sy where
 | e (e:Expr) (x:Ex)
 | s (es:az) (M:List Ex)
 | o (o:Option Expr) (x:Ex)
 | i (e:Expr) (it:Itk) (src:List Ex)
class inductive CQ:Sc→Sy→Prop
 | lit {V:Sc} {c:Const} {k:Nat} {pos:Pos} {d:D} :ConstIs c d→CQ V (.e (.Constant c k pos)<|.lit d)
 | var {V:Sc} {x:Str} {pos:Pos} {i:Nat} :V.isV x i→CQ V (.e (.Name x pos)<|.var i)
 | pl {V:Sc} {x:Str} {pos:Pos} {i:Nat} :V.isV x i→CQ V (.e (.Name x pos)<|.pl<|.var i)
 | gl {V:Sc} {x:Str} {pos:Pos} {k:Nat} :V.isG x→tb.gl[k]?=some x→CQ V (.e (.Name x pos)<|.gl k)
 | tup {V:Sc} {es:az} {k:Nat} {pos:Pos} {M:List Ex} :CQ V (.s es M)→M.length≤1000→CQ V (.e (.Tuple es k pos)<|.tup M)
 | list {V:Sc} {es:az} {pos:Pos} {M:List Ex} :CQ V (.s es M)→M.length≤1000→CQ V (.e (.List es pos)<|.list M)
 | op2 {V:Sc} {a b:Expr} {pos:Pos} {o:Op2} {x y:Ex} :CQ V (.e a x)→CQ V (.e b y)→Apart x (bvE y)→CQ V (.e (.BinOp a (opOf o) b pos)<|.op2 o x y)
 | neg {V:Sc} {a:Expr} {pos:Pos} {x:Ex} :CQ V (.e a x)→CQ V (.e (.UnaryOp .USub a pos)<|.neg x)
 | not {V:Sc} {a:Expr} {pos:Pos} {x:Ex} :CQ V (.e a x)→CQ V (.e (.UnaryOp .Not a pos)<|.not x)
 | cmp {V:Sc} {a b:Expr} {pos:Pos} {o:Cm} {x y:Ex} :CQ V (.e a x)→CQ V (.e b y)→Apart x (bvE y)→CQ V (.e (.Compare a [cmOp o] [b] pos)<|.cmp o x y)
 | cmp2 {V:Sc} {a b e:Expr} {pos:Pos} {o p:Cm} {x y z:Ex} :CQ V (.e a x)→CQ V (.e b y)→CQ V (.e e z)→CQ V (.e (.Compare a [cmOp o,cmOp p] [b,e] pos)<|.cmp2 o p x y z)
 | ite {V:Sc} {t a b:Expr} {pos:Pos} {x y z:Ex} :CQ V (.e t x)→CQ V (.e a y)→CQ V (.e b z)→CQ V (.e (.IfExp t a b pos)<|.ite x y z)
 | bo {V:Sc} {j:Bool} {es:az} {pos:Pos} {M:List Ex} :CQ V (.s es M)→CQ V (.e (.BoolOp (bOp j) es pos)<|.bo j M)
 | idx {V:Sc} {a i:Expr} {pos:Pos} {x z:Ex} :CQ V (.e a x)→CQ V (.e i z)→Apart x (bvE z)→CQ V (.e (.Subscript a i pos)<|.idx x z)
 | slc {V:Sc} {a:Expr} {lo hi:Option Expr} {p pos:Pos} {x l h:Ex} :CQ V (.e a x)→CQ V (.o lo l)→CQ V (.o hi h)→Apart x (bvE l++bvE h)→CQ V (.e (.Subscript a (.Slice lo hi none p) pos)<|.slc x l h)
 | call {V:Sc} {f:Nat} {d:DefRec} {p pos:Pos} {args:az} {M:List Ex} :tb.fn[f]?=some d∧f<tb.m0→V.isG d.name→CQ V (.s args M)→args.length≤29→CQ V (.e (.Call (.Name d.name p) args [] pos)<|.call f M)
 | bi1 {V:Sc} {b:Bi} {p pos:Pos} {a:Expr} {x:Ex} :b.one=true→V.isG (biName b)→CQ V (.e a x)→CQ V (.e (.Call (.Name (biName b) p) [a] [] pos)<|.bi b [x])
 | isi {V:Sc} {t:Ty} {p p' pos:Pos} {a:Expr} {x:Ex} :V.isG "isinstance"→V.isG (tyName t)→CQ V (.e a x)→CQ V (.e (.Call (.Name "isinstance" p) [a,.Name (tyName t) p'] [] pos) (.bi (.isi t) [x]))
 | comp {V:Sc} {elt iter g:Expr} {vs:ax} {t:Tgt} {pos:Pos} {ifs:az} {scope:Scope} {i:Nat} {it:Itk} {src conds:List Ex} {x:Ex} :CG i g vs t→(it.pairs=true→t.isTup=true)→CQ V (.i iter it src)→CompOk scope V vs→V.hi≤i→
   CQ (compSc scope V vs i) (.e elt x)→CQ (compSc scope V vs i) (.s ifs conds)→(∀j∈tgtVars t,j∉bvE x∧j∉bvEs conds)→CQ V (.e (.ListComp elt [⟨g,iter,ifs,0⟩] scope pos)<|.comp x t it src conds)
 | disp {V:Sc} {kes:List (Option Expr)} {ks:ax} {vals:az} {M:List Ex} {pos:Pos} :KS kes ks→CQ V (.s vals M)→ks.Nodup∧KOk ks→ks.length=M.length→ks≠ []∧ks.length≤15→M.all Ex.noPl=true→CQ V (.e (.Dict kes vals pos)<|.bi (.disp ks) M)
 | dis1 {V:Sc} {k v:Expr} {x z:Ex} {pos:Pos} :CQ V (.e k x)→CQ V (.e v z)→Ex.noPl x=true∧Ex.noPl z=true→CQ V (.e (.Dict [some k] [v] pos)<|.bi .dis1 [x,z])
 | bx {V:Sc} {e:Expr} {b:Bi} {es:az} {M:List Ex} :BX V e b es→CQ V (.s es M)→CQ V (.e e<|.bi b M)
 | avar {V:Sc} {x a:Str} {p pos:Pos} {i:Nat} :V.isA x a i→CQ V (.e (.Attribute (.Name x p) a pos)<|.var i)
 | apl {V:Sc} {x a:Str} {p pos:Pos} {i:Nat} :V.isA x a i→CQ V (.e (.Attribute (.Name x p) a pos)<|.pl<|.var i)
 | mcall {V:Sc} {f:Nat} {d:DefRec} {x:Str} {p ap pos:Pos} {args:az} {M:List Ex} :tb.fn[f]?=some d∧tb.m0≤f∧kf f=V.k∧tb.rb[f-tb.m0]?=some []→x=V.sn∧(x == ("__debug__" :Str))=false∧V.ats≠ []→(ap.endLine == pos.line)=true→CQ V (.s args M)→args.length≤28→
   CQ V (.e (.Call (.Attribute (.Name x p) d.name ap) args [] pos)<|.mcall f V.as M)
 | pop {V:Sc} {o:Expr} {ap pos:Pos} {i:Nat} :PE V o i→(ap.endLine == pos.line)=true→CQ V (.e (.Call (.Attribute o "pop" ap) [] [] pos) (.pop (.var i)))
 | tin {V:Sc} {s a x:Str} {p ap px pos:Pos} {i j:Nat} :V.isV x j→V.isA s a i→CQ V (.e (.Compare (.Name x px) [.NotIn] [.Attribute (.Name s p) a ap] pos)<|.tin i<|.var j)
 | tget {V:Sc} {s a x:Str} {p ap px pos:Pos} {i j:Nat} :V.isV x j→V.isA s a i→CQ V (.e (.Subscript (.Attribute (.Name s p) a ap) (.Name x px) pos)<|.tget i<|.var j)
 | nil {V:Sc} :CQ V (.s [] [])
 | cons {V:Sc} {e:Expr} {es:az} {x:Ex} {M:List Ex} :CQ V (.e e x)→CQ V (.s es M)→Apart x (bvEs M)→CQ V (.s (e::es) (x::M))
 | onone {V:Sc} :CQ V (.o none<|.lit .none)
 | osome {V:Sc} {e:Expr} {x:Ex} :CQ V (.e e x)→CQ V (.o (some e) x)
 | seq {V:Sc} {e:Expr} {x:Ex} :CQ V (.e e x)→CQ V (.i e .seq [x])
 | range {V:Sc} {p pos:Pos} {e:Expr} {x:Ex} :V.isG "range"→CQ V (.e e x)→CQ V (.i (.Call (.Name "range" p) [e] [] pos) .range [x])
 | range3 {V:Sc} {p pos:Pos} {a b e:Expr} {x y z:Ex} :V.isG "range"→CQ V (.e a x)→CQ V (.e b y)→CQ V (.e e z)→Ex.noPl x=true∧Ex.noPl y=true→CQ V (.i (.Call (.Name "range" p) [a,b,e] [] pos) .range3 [x,y,z])
 | rev {V:Sc} {p pos:Pos} {e:Expr} {x:Ex} :V.isG "reversed"→CQ V (.e e x)→CQ V (.i (.Call (.Name "reversed" p) [e] [] pos) .rev [x])
 | zip {V:Sc} {p pos:Pos} {a b:Expr} {x z:Ex} :V.isG "zip"→CQ V (.e a x)→CQ V (.e b z)→Apart x (bvE z)→CQ V (.i (.Call (.Name "zip" p) [a,b] [] pos) .zip [x,z])
 | enum {V:Sc} {p pos:Pos} {e:Expr} {x:Ex} :V.isG "enumerate"→CQ V (.e e x)→CQ V (.i (.Call (.Name "enumerate" p) [e] [] pos) .enum [x])
noncomputable abbrev CE(V:Sc)(e:Expr)(x:Ex) :Prop:=CQ V<|.e e x
noncomputable abbrev CEs(V:Sc)(es:az)(M:List Ex) :Prop:=CQ V<|.s es M
noncomputable abbrev CEo(V:Sc)(o:Option Expr)(x:Ex) :Prop:=CQ V<|.o o x
noncomputable abbrev IT(V:Sc)(e:Expr)(it:Itk)(src:List Ex) :Prop:=CQ V<|.i e it src
noncomputable def noComp:Expr→Bool
 | .ListComp ..=>false
 | .SetComp ..=>false
 | .DictComp ..=>false
 | _=>true
noncomputable def noTup:Expr→Bool
 | .Tuple _ _ _=>false
 | _=>true
inductive EP1(e:Expr)(ao:Env)(rest:az)(op:CmpOp)(v o' i':Value)(o i:Expr)(p:Pos)(l:Nat)(t:Option Expr)(es:az)(k:Nat) :Prop
 | mk:starEach (e::rest) ao=(false,eval e ao)::starEach rest ao→behindInMarks op e=false→foldedSetIterable e ao v=pure v→subscripted e false o' i'=operate [o',i'] (getItem o' i')→
  swapsWith e (some<|.Subscript o i p) l ao=pure false→(noComp e=false∨swapsWith e t l ao=pure false)→(noTup e=false∨swappedStores [.Tuple es k p] e ao=pure none)→EP1 e ao rest op v o' i' o i p l t es k
noncomputable def shp:Expr→Bool
 | .Starred _ _=>false
 | .Set _ _ _=>false
 | .Slice _ _ _ _=>false
 | .SetComp _ _ _ _=>false
 | .DictComp _ _ _ _ _=>false
 | _=>true
inductive Sx:Ex→Prop
 | lit (d:D) :Sx (.lit d)
 | var (i:Nat) :Sx (.var i)
 | pl (p:Pl) :Sx (.pl p)
 | gl (k:Nat) :Sx (.gl k)
inductive CI(V:Sc) :Expr→Ex→Prop
 | comp {elt iter g:Expr} {vs:ax} {t:Tgt} {pos:Pos} {ifs:az} {scope:Scope} {i:Nat} {it:Itk} {src conds:List Ex} {x:Ex} :CG i g vs t→(it.pairs=true→t.isTup=true)→IT V iter it src→CompOk scope V vs→V.hi≤i→
   CE (compSc scope V vs i) elt x→CEs (compSc scope V vs i) ifs conds→(∀j∈tgtVars t,j∉bvE x∧j∉bvEs conds)→CI V (.ListComp elt [⟨g,iter,ifs,0⟩] scope pos) (.comp x t it src conds)
 | lit {c:Const} {k:Nat} {pos:Pos} {d:D} :ConstIs c d→CI V (.Constant c k pos) (.lit d)
 | nm {x:Str} {pos:Pos} {z:Ex} :Sx z→CI V (.Name x pos) z
 | other {e:Expr} {z:Ex} :noComp e=true→baseB e=false→shp e=true→CI V e z
noncomputable def CIq(V:Sc) :Sy→Prop
 | .e e x=>CI V e x
 | .i e _ _=>(∃x,CE V e x)∨ ∀(ao:Env)(v:Value),foldedSetIterable e ao v=pure v
 | _=>True
theorem CQ.ci{V:Sc}{q:Sy}(h:CQ V q) :CIq V q:=
 CQ.casesOn (motive:=fun V q j0_=>CIq V q) h (fun h=>CI.lit h) (fun j0_=>CI.nm<|.var _) (fun j0_=>CI.nm<|.pl _) (fun j0_ j1_=>CI.nm<|.gl _) (fun j0_ j1_=>CI.other rfl rfl rfl) (fun j0_ j1_=>CI.other rfl rfl rfl) (fun j0_ j1_ j2_=>CI.other rfl rfl rfl) (fun j0_=>CI.other rfl rfl rfl) (fun j0_=>CI.other rfl rfl rfl) (fun j0_ j1_ j2_=>CI.other rfl rfl rfl) (fun j0_ j1_ j2_=>CI.other rfl rfl rfl) (fun j0_ j1_ j2_=>CI.other rfl rfl rfl) (fun j0_=>CI.other rfl rfl rfl) (fun j0_ j1_ j2_=>CI.other rfl rfl rfl) (fun j0_ j1_ j2_ j3_=>CI.other rfl rfl rfl) (fun j0_ j1_ j2_ j3_=>CI.other rfl rfl rfl) (fun j0_ j1_ j2_=>CI.other rfl rfl rfl) (fun j0_ j1_ j2_=>CI.other rfl rfl rfl) (fun h0 hz h1 h2 h3 h4 h5 h6=>CI.comp h0 hz h1 h2 h3 h4 h5 h6) (fun j0_ j1_ j2_ j3_ j4_ j5_=>CI.other rfl rfl rfl) (fun j0_ j1_ j2_=>CI.other rfl rfl rfl) (fun {V _ _ _ M} h _=>BX.casesOn (motive:=fun e b j0_ j1_=>CI V e<|.bi b M) h (fun j0_ j1_ j2_=>.other rfl rfl rfl) (fun j0_ j1_=>.other rfl rfl rfl)<|.other rfl rfl rfl) (fun j0_=>CI.other rfl rfl rfl) (fun j0_=>CI.other rfl rfl rfl) (fun j0_ j1_ j2_ j3_ j4_=>CI.other rfl rfl rfl) (fun j0_ j1_=>CI.other rfl rfl rfl) (fun j0_ j1_=>CI.other rfl rfl rfl) (fun j0_ j1_=>CI.other rfl rfl rfl) trivial (fun j0_ j1_ j2_=>trivial) trivial (fun j0_=>trivial) (fun h=>.inl ⟨_,h⟩) (fun j0_ j1_=>.inr fun j0_ j1_=>rfl) (fun j0_ j1_ j2_ j3_ j4_=>.inr fun j0_ j1_=>rfl) (fun j0_ j1_=>.inr fun j0_ j1_=>rfl) (fun j0_ j1_ j2_ j3_=>.inr fun j0_ j1_=>rfl) (fun j0_ j1_=>.inr fun j0_ j1_=>rfl)
theorem CE.ci{V:Sc}{e:Expr}{x:Ex}(h:CE V e x) :CI V e x:=CQ.ci h
theorem CE.shp{V:Sc}{e:Expr}{x:Ex}(h:CE V e x) :shp e=true:=CI.casesOn (motive:=fun e j0_ j1_=>Mv.shp e=true) h.ci (fun j0_ j1_ j2_ j3_ j4_ j5_ j6_ j7_=>rfl) (fun j0_=>rfl) (fun j0_=>rfl) fun j0_ j1_ h=>h
theorem CE.sx{V:Sc}{k:Expr}{z:Ex}(ce:CE V k z) :baseB k=true→Sx z:=CI.casesOn (motive:=fun k z j0_=>baseB k=true→Sx z) ce.ci (fun j0_ j1_ j2_ j3_ j4_ j5_ j6_ j7_ q=>Bool.noConfusion q) (fun {_ _ _ d} _ _=>.lit d) (fun h j0_=>h) fun j0_ h j1_ q=>Bool.noConfusion<|h.symm.trans q
theorem shp_ep{e:Expr}(ao:Env)(rest:az)(op:CmpOp)(v o' i':Value)(o i:Expr)(p:Pos)(l:Nat)(t:Option Expr)(es:az)(k:Nat)(h:shp e=true) :EP1 e ao rest op v o' i' o i p l t es k:=by cases e <;> first | exact .mk rfl rfl rfl rfl rfl (.inr rfl) (.inr rfl) | exact .mk rfl rfl rfl rfl rfl (.inl rfl) (.inr rfl) | exact .mk rfl rfl rfl rfl rfl (.inr rfl) (.inl rfl) | exact tf h
theorem CE.epl{V:Sc}{e:Expr}{x:Ex}(ao:Env)(rest:az)(op:CmpOp)(v o' i':Value)(o i:Expr)(p:Pos)(l:Nat)(t:Option Expr)(es:az)(k:Nat)(h:CE V e x) :EP1 e ao rest op v o' i' o i p l t es k:=shp_ep ao rest op v o' i' o i p l t es k h.shp
theorem CE.star{V:Sc}{e:Expr}{x:Ex}(h:CE V e x)(ao:Env)(rest:az) :starEach (e::rest) ao=(false,eval e ao)::starEach rest ao:=by cases CE.epl ao rest .Eq .none .none .none e e e.pos 0 none [] 0 h;assumption
theorem CE.noSet{V:Sc}{e:Expr}{x:Ex}(h:CE V e x)(op:CmpOp) :behindInMarks op e=false:=by cases CE.epl default [] op .none .none .none e e e.pos 0 none [] 0 h;assumption
theorem CE.noFold{V:Sc}{e:Expr}{x:Ex}(h:CE V e x)(ao:Env)(v:Value) :foldedSetIterable e ao v=pure v:=by cases CE.epl ao [] .Eq v .none .none e e e.pos 0 none [] 0 h;assumption
theorem CE.isPlain{V:Sc}{e:Expr}{x:Ex}(h:CE V e x)(o i:Value) :subscripted e false o i=operate [o,i] (getItem o i):=by cases CE.epl default [] .Eq .none o i e e e.pos 0 none [] 0 h;assumption
theorem swaps_sub{V:Sc}{ao:Env}{e:Expr}{z:Ex}{o i:Expr}{p:Pos}{l:Nat}(ce:CE V e z) :swapsWith e (some<|.Subscript o i p) l ao=pure false:=by cases CE.epl ao [] .Eq .none .none .none o i p l none [] 0 ce;assumption
theorem swaps_plain{V:Sc}{ao:Env}{e:Expr}{z:Ex}{t:Option Expr}{l:Nat}(ce:CE V e z)(h:noComp e=true) :swapsWith e t l ao=pure false:=by cases CE.epl ao [] .Eq .none .none .none e e e.pos l t [] 0 ce with
 | mk _ _ _ _ _ a _=>exact a.elim (fun q=>by have h:=q▸h;exact tf h) id
theorem swapped_no{V:Sc}{ao:Env}{es:az}{k:Nat}{p:Pos}{value:Expr}{e:Ex}(ce:CE V value e)(h:noTup value=true) :swappedStores [.Tuple es k p] value ao=pure none:=by cases CE.epl ao [] .Eq .none .none .none value value p 0 none es k ce with
 | mk _ _ _ _ _ _ a=>exact a.elim (fun q=>by have h:=q▸h;exact tf h) id
theorem IT.noFold{V:Sc}{e:Expr}{it:Itk}{src:List Ex}(h:IT V e it src)(ao:Env)(v:Value) :foldedSetIterable e ao v=pure v:=(CQ.ci h).elim (fun⟨_,h⟩=>CE.noFold h ao v) fun q=>q ao v
theorem bnd_some{α β:Type}{m:Out α}{k:α→Fm→Out β}{o:aA β×Fm}(h:bndK m k=some o) :(∃e Y,m=some (.error e,Y)∧o=(.error e,Y))∨ ∃a Y,m=some (.ok a,Y)∧k a Y=some o:=by
 rcases m with _ | ⟨_ | a,Y⟩
 .exact nos h
 .exact .inl ⟨_,_,rfl,(Option.some.inj h).symm⟩
 .exact .inr ⟨_,_,rfl,h⟩
inductive OkIs{α:Type}(Y:Fm)(m:Option α)(o:aA α×Fm) :Prop
 | mk (a:α) :m=some a→o=(.ok a,Y)→OkIs Y m o
theorem okO_eq{α:Type}{Y:Fm}{m:Option α}{o:aA α×Fm}(h:okO Y m=some o) :OkIs Y m o:=by cases m with
 | none=>exact nos h
 | some a=>exact⟨a,rfl,(Option.some.inj h).symm⟩
theorem okV_eq{Y:Fm}{m:Option Rv}{o:aA Rv×Fm}(h:okV Y m=some o) :OkIs Y m o:=by
 rcases m with _ | ⟨_ | _ | _⟩
 .exact nos h
 .exact⟨_,rfl,(sos h).symm⟩
 .exact⟨_,rfl,(sos h).symm⟩
 .exact nos h
end Mv
end
section
set_option backward.match.sparseCases false
namespace Mv
open PySem PyProof.Rows
variable [Hp]
theorem rdL.det{h:Heap}{l:Loc}{v v':Value}(x:rdL h l v)(z:rdL h l v') :v=v':=by cases l with
 | dict a n=>obtain⟨m,⟨o,es,ep,ho,hd,hk,hf⟩,e⟩:=x;obtain⟨m',⟨o',es',ep',ho',hd',hk',hf'⟩,e'⟩:=z;rw[ho]at ho';obtain rfl:=sos ho';have hd':=hd▸hd';injection hd' with hd';subst hd';rw[← hf,hf',e']at e;refine O (sos e) ?_;rfl
 | cell a=>obtain⟨o,x⟩:=x;obtain⟨o',ho',hd'⟩:=z;rw[x.1]at ho';obtain rfl:=sos ho';have hd':=x.2▸hd';cases hd';rfl
 | attr a ns n=>obtain⟨m,⟨⟨o,es,ep,ho,hd,_,_,hf⟩,_⟩,e⟩:=x;obtain⟨m',⟨⟨o',es',ep',ho',hd',_,_,hf'⟩,_⟩,e'⟩:=z;rw[ho]at ho';obtain rfl:=sos ho';rw[hd]at hd';injection hd' with hd';subst hd';rw[← hf,hf',e']at e;refine O (sos e) ?_;rfl
noncomputable def FrOk(F:Addr→Prop)(A:Around) :Prop:= ∃l,A.frames=some l∧ ∀e∈l,e.scope.kind≠ .module∧ ∃L,e.frame=some L∧F L
noncomputable def IsK(k:Nat)(o:Obj) :Prop:= ∃c C,tb.cr k=some c∧mg c.name=some (.ref C)∧o.cls = .ref C
structure InsOk(V:Sc)(ao:Env)(y:Lay)(p:Addr×Obj)(dx:Addr) :Prop where
 slf:y.slf=some p
 cls:IsK V.k p.2
 nc:∀c,p.2.data≠ .cls c
 dic:p.2.dict=some dx
 ne:dx≠p.1
 lk:ao.kindOf V.sn=some .local
 ls:y.loc y.si=some (.dict ao.locals V.sn)
 an:∀a i,V.ats.lookup a=some i→a∈tb.an∧y.loc i=some (.attr dx tb.an a)
 as:∀(k i:Nat),V.as[k]?=some i→ ∃a,tb.an[k]?=some a∧y.loc i=some (.attr dx tb.an a)
 len:V.as.length=tb.an.length
 full:∀i l,y.loc i=some l→l.addr=dx→i∈V.as
 zd:∀i l,y.loc i=some l→l.addr=dx→ ∃a,l = .attr dx tb.an a
structure EnvOk(A:Around)(V:Sc)(ao:Env)(y:Lay) :Prop where
 stk:FrOk (fun a=>y.F a∨a=y.L) A
 hi:∀i l,y.loc i=some l→i<V.hi
 kind:ao.scope.kind = .function
 glob:ao.globals=mainGlobals
 blt:ao.builtins=builtinsNs
 frame:ao.frame=some y.L
 top:∃e0 outer,A.frames=some (e0::outer)∧e0.frame=ao.frame
 var:∀x i,V.vars.lookup x=some i→(ao.kindOf x=some .local∧y.loc i=some (.dict ao.locals x))∨((ao.kindOf x=some .cell∨(ao.kindOf x=some .free∧(x == ("__classdict__" :Str))=false))∧ ∃c,ao.cells.lookup x=some c∧y.loc i=some (.cell c))
 gl:∀x,V.names.lookup x=some .globalImplicit→ao.kindOf x=some .globalImplicit
 cf:∀x,V.names.lookup x=some .cell∨V.names.lookup x=some .free→ao.kindOf x=some .cell∨ao.kindOf x=some .free
 ins:V.ats≠ []→ ∃p dx,InsOk V ao y p dx
 nsi:∀x i,V.vars.lookup x=some i→ ∀p,y.slf=some p→y.si≠i
 slo:∀p,y.slf=some p→ ∃l,y.loc y.si=some l
noncomputable def biNames:ax:=["len","isinstance","abs","int","str","tuple","list","bool","range","zip","dict","enumerate","reversed"]
noncomputable def Asked(B:Heap)(C:Addr)(ae:Value)(b:Bool) :Prop:= ∀(prog:Program)(w:World)(A:Around)(E:Value→Shared→Prop)(s:Shared)(a:Addr)(o:Obj),(∀a o,B.get? a=some o→s.heap.get? a=some o)→s.heap.get? a=some o→(o.cls = .ref C∧o.dict=none∧ ∃vs,o.data = .fields vs)→
 ∀Q:Bool→Shared→Prop,Q b s→wpAny (model prog w) A (excMatches (.ref a) ae) Q E s
structure Gd(glob:aB) :Prop where
 g:B.Ns mainGlobals mg
 b:B.Ns builtinsNs mb
 nl:B.NoLimit
 bt:∀x:Str,x≠"__name__"→mb x=bootBuiltins x
 fn:∀(f:Nat)(d:DefRec),f<tb.m0→tb.fn[f]?=some d→ ∃a o pm code doc,mg d.name=some (.ref a)∧B.get? a=some o∧o.data = .func (Calls.docDef d.name d.params d.body d.scope pm code doc)∧B.CodeRec code d.name
 pl:∀k c,tb.cr k=some c→ ∃C N mN,mg c.name=some (.ref C)∧PlainAt B c C N mN∧(∀a∈tb.an,typeLookup (.type "object") a=pure none)∧
  ∀(f:Nat) (d:DefRec),tb.m0≤f∧kf f=k→tb.fn[f]?=some d→⟨d.name,d.params,d.body,d.scope⟩∈c.meths∧d.name∉tb.an∧ ∃y,typeLookup (.type "object") d.name=pure y
 gl:∀(k:Nat)(x:Str)(d:D),tb.gl[k]?=some x→glob[k]?=some d→ ∃v,mg x=some v∧ ∀(h:Heap)(Z:Addr→Prop),(∀a o,B.get? a=some o→h.get? a=some o)→(∀a o,B.get? a=some o→Z a)→Rep h Z v d
 bi:∀x∈biNames,mg x=none
 cl:∀k∈tb.cl, ∃C Bb newId initId bm,OwnClsQ k C bm newId mg B∧ExcBaseFacts Bb newId initId bm
 ask:∀c∈tb.hc, ∃ae,mg c=some ae∧ ∀k∈tb.cl, ∀C,mg k=some (.ref C)→Asked B C ae ((tb.hb c).contains k)
section
variable {y:Lay}{bv bv':aw}{ai own':Addr→Option Nat}{Z Z':Addr→Prop}{s s':Shared}{Y fr':Fm}
inductive PostE(y:Lay)(bv:aw)(ai:Addr→Option Nat)(Z:Addr→Prop)(s:Shared)(ak:aA Rv×Fm)(v:Value)(s':Shared) :Prop
 | mk (r:Rv) (own':Addr→Option Nat) (Z':Addr→Prop) :ak.1 = .ok r→Inv y own' Z' s'.heap ak.2→Step y bv ai Z s own' Z' s'→RvAt y own' Z' s.heap s'.heap r v→PostE y bv ai Z s ak v s'
theorem PostE.sub{ak:aA Rv×Fm}{v:Value}(hb:∀i∈bv,i∈bv')(p:PostE y bv ai Z s ak v s') :PostE y bv' ai Z s ak v s':=by obtain⟨r,own',Z',e,I,S,q⟩:=p;exact⟨r,own',Z',e,I,S.sub hb,q⟩
set_option tactic.hygienic true in
theorem RvAt.dat{h₀ h:Heap}{r:Rv}{v:Value}{d:D}(I:Inv y ai Z h Y)(q:RvAt y ai Z h₀ h r v)(e:rvD Y r=some d) :Dat h Z v d:=by cases r with
 | fz d'=>obtain rfl:=sos e;exact .inl q
 | ai d'=>obtain rfl:=sos e;refine ex1 q fun a q=>?_;refine O q.1 ?_;have w:=q.2.2.2.2.2;exact .inr ⟨a,rfl,w⟩
 | pl p=>cases p with
  | var i=>
   refine ex1 q fun l q=>?_;simp only[rvD,plGet]at e;split at e
   .rename_i d' hs;cases e;obtain⟨l',v',hl',hr',R⟩:=I.at' i _ hs (by intro n;cases n);rw[q.1]at hl';obtain rfl:=sos hl';exact O (q.2.det hr')<|.inl R
   .rename_i d' hs;cases e;obtain⟨l',v',hl',hr',a,rfl,oa,w⟩:=I.at' i _ hs (by intro n;exact Slot.noConfusion n);rw[q.1]at hl';obtain rfl:=sos hl';exact O (q.2.det hr')<|.inr ⟨a,rfl,w⟩
   .exact nos e
inductive FrzTo(y:Lay)(bv:aw)(ai:Addr→Option Nat)(Z:Addr→Prop)(s:Shared)(own':Addr→Option Nat)(s':Shared)(Y:Fm)(v:Value)(d:D) :Prop
 | mk (Z'':Addr→Prop) :Inv y own' Z'' s'.heap Y→Step y bv ai Z s own' Z'' s'→Rep s'.heap Z'' v d→FrzTo y bv ai Z s own' s' Y v d
theorem RvAt.freeze{r:Rv}{v:Value}{d:D}(I:Inv y own' Z' s'.heap Y)(S:Step y bv ai Z s own' Z' s')(q:RvAt y own' Z' s.heap s'.heap r v)(e:rvV r=some d) :
  FrzTo y bv ai Z s own' s' Y v d:=by
 cases r with
 | fz d'=>exact O (sos e).symm<|⟨Z',I,S,q⟩
 | ai d'=>refine O (sos e).symm ?_;refine ex1 q fun a q=>?_;refine O q.1 ?_;exact ex1 q.2.2.2.2.2.live fun o ho=>(⟨_,I.addZ q.2.2.1 q.2.2.2.1 ho,S.addZ q.2.1,q.2.2.2.2.2.rep (fun j0_ z=>.inl z)<|.inr rfl⟩)
 | pl p=>exact nos e
theorem Op.post{s₂:Shared}{Z₂:Addr→Prop}{own₂:Addr→Option Nat}{r:Rv}{v:Value}{s₃:Shared}(I:Inv y own₂ Z₂ s₂.heap Y)(S:Step y bv ai Z s own₂ Z₂ s₂)(p:Op Z₂ s₂ r v s₃) :PostE y bv ai Z s (.ok r,Y) v s₃:=by obtain⟨h',tk,rfl,k,q⟩:=p;cases q with
 | old R=>exact⟨_,own₂,Z₂,rfl,I.grow k,S.trans<|.grow k,R⟩
 | new e e' R=>exact⟨_,own₂,_,rfl,I.growZ k e e',S.trans<|.growZ k e,R⟩
 | @ai a d e w=>exact⟨_,own₂,Z₂,rfl,I.grow k,S.trans<|.grow k,a,rfl,S.old a e,(I.fresh e).1,(I.fresh e).2.1,(I.fresh e).2.2,w⟩
theorem PostE.val{d:D}{v:Value}(I:Inv y own' Z' s'.heap Y)(S:Step y bv ai Z s own' Z' s')(R:Rep s'.heap Z' v d) :PostE y bv ai Z s (.ok<|.fz d,Y) v s':=⟨_,own',Z',rfl,I,S,R⟩
theorem plVars_of{r:Rv}{d:D}(e:rvV r=some d) :plVars r=[]:=by cases r <;> first | rfl | exact nos e
end
section
variable {A:Around}{E:Value→Shared→Prop}{ao:Env}{glob:aB}{V:Sc}{y:Lay}{c:Cfg}{n:Nat}
 {bv:aw} {ai own₁:Addr→Option Nat} {Z Z₁:Addr→Prop} {s s₁:Shared} {Y fr₁:Fm}
theorem load_var{x:Str}{i:Nat}{pos:Pos}{l:Loc}{v:Value}{Q:Value→Shared→Prop}(en:EnvOk A V ao y)(hv:V.isV x i)(hl:y.loc i=some l)(hr:rdL s.heap l v)(h:Q v s) :
  wpAny (model prog w) A (eval (.Name x pos) ao) Q E s:=by
 refine wpAny_Name ?_ hv.2;rcases en.var x i hv.1 with⟨hk,e⟩ | ⟨hk | ⟨hk,hc⟩,c,hc',e⟩
 .rw[hl]at e;obtain rfl:=sos e;obtain⟨m,hr⟩:=hr;exact wpAny_loadName_local en.kind hk hr.1 hr.2 h
 .have e:=hl▸e;obtain rfl:=sos e;exact wpAny_loadName_cell en.kind hk hc' hr h
 .rw[hl]at e;obtain rfl:=sos e;exact wpAny_loadName_free en.kind hk hc' hr h hc
theorem Rep.hand{h:Heap}{v:Value}{d:D}(r:Rep h Z v d) :handedOut v=pure v:=Rep.casesOn (motive_1:=fun v j0_ j1_=>handedOut v=pure v) r rfl (fun j0_=>rfl) (fun j0_ j1_=>rfl) (fun j0_ j1_ j2_ j3_=>rfl) (fun j0_ j1_ j2_ j3_=>rfl) (fun j0_ j1_ j2_ j3_=>rfl) fun j0_ j1_ j2_ j3_=>rfl
theorem SlotV.hand{h:Heap}{af:Addr→Prop}{sl:Slot}{v:Value}(x:SlotV h Z af sl v)(n:sl≠ .no) :handedOut v=pure v:=by cases sl with
 | no=>exact absurd rfl n
 | fz d=>exact Rep.hand x
 | ai d=>obtain⟨a,rfl,_⟩:=x;rfl
 | tab X=>obtain⟨a,rfl,_⟩:=x;rfl
theorem Sc.isA.ne{x a:Str}{i:Nat}(hx:V.isA x a i) :V.ats≠ []:=fun q=>by have:=hx.at';rw[q]at this;exact nos this
theorem load_self{x:Str}{p:Addr × Obj}{dx:Addr}{pos:Pos}{Q:Value→Shared→Prop}(J:InsOk V ao y p dx)(en:EnvOk A V ao y)(I:Inv y ai Z s.heap Y)(hx:x=V.sn)(hd:(x == ("__debug__" :Str))=false)(h:Q (.ref p.1) s) :
  wpAny (model prog w) A (eval (.Name x pos) ao) Q E s:=by
 obtain⟨l,hl,m,hn,hm⟩ :∃l,some l=some (Loc.dict ao.locals V.sn)∧ ∃m,s.heap.Ns ao.locals m∧m V.sn=some (.ref p.1):=by obtain⟨l,hl,r⟩:=(I.sf p J.slf).rd;rw[J.ls]at hl;obtain rfl:=sos hl;exact⟨_,rfl,r⟩
 subst hx;exact wpAny_Name (wpAny_loadName_local en.kind J.lk hn hm h) hd
theorem load_atr{x a:Str}{i:Nat}{p pos:Pos}{l:Loc}{v:Value}{Q:Value→Shared→Prop}(gd:Gd glob)(en:EnvOk A V ao y)(I:Inv y ai Z s.heap Y)(hx:V.isA x a i)(hl:y.loc i=some l)(hr:rdL s.heap l v)(hv:handedOut v=pure v)(h:∀tk,Q v {s with toks:=tk}) :
  wpAny (model prog w) A (eval (.Attribute (.Name x p) a pos) ao) Q E s:=by
 refine hidG fun G2 g2=>?_;refine ex2 (en.ins hx.ne) fun pp dx J=>?_;refine hidG fun G4 g4=>?_;refine ex2 J.cls fun c C u=>?_;have hcr:=u.1;have hC:=u.2.1;have hcl:=u.2.2;refine ex3 (gd.pl _ c hcr) fun C' N mN z=>?_;have hC':=z.1;have P:=z.2.1;have hna:=z.2.2.1;have hC':=hC▸hC';cases hC';refine g4 ?_;refine g2 ?_;refine Attribute_name<|load_self J en I hx.sn hx.db ?_;refine hidG fun G g=>?_;obtain⟨ha,hli⟩:=J.an a i hx.at';rw[hl]at hli;obtain rfl:=sos hli;refine hidG fun G1 g1=>?_;obtain⟨mA,⟨hns,hw⟩,hma⟩:=hr;have hst:=hx.st;rw[hcr]at hst;refine hidG fun G3 g3=>?_;obtain⟨nm,q,bs,sn,sub,col,dd,k0,k1,k2,k3,k5,hCo⟩:=(P.cls.keeps I.base).obj;refine g3 ?_;refine g1 ?_;exact g<|load_attr hCo (P.cls.keeps I.base).ns (P.quiet _<|List.mem_append_left _ (by decide)) (P.quiet a<|List.mem_append_right _ hst) (hna a ha) ⟨pp.2,(I.sf pp J.slf).ob,hcl,J.nc,.inr ⟨dx,J.dic,J.ne,hns⟩⟩ hma hv<|h _
theorem load_pe{o:Expr}{i:Nat}{l:Loc}{v:Value}{Q:Value→Shared→Prop}(gd:Gd glob)(en:EnvOk A V ao y)(I:Inv y ai Z s.heap Y)(hx:PE V o i)(hl:y.loc i=some l)(hr:rdL s.heap l v)(hv:handedOut v=pure v)(h:∀tk,Q v {s with toks:=tk}) :
  wpAny (model prog w) A (eval o ao) Q E s:=by
 cases hx with
 | nm hx=>exact load_var en hx hl hr<|h s.toks
 | atr hx=>exact load_atr gd en I hx hl hr hv h
theorem load_glob{x:Str}{pos:Pos}{v:Value}{Q:Value→Shared→Prop}(gd:Gd glob)(en:EnvOk A V ao y)(I:Inv y ai Z s.heap Y)(hx:V.isG x)(hv:mg x=some v)(h:Q v s) :
  wpAny (model prog w) A (eval (.Name x pos) ao) Q E s:=
 Calls.Name_function_global en.kind (en.gl x hx.1) (Calls.loadGlobal_global (by refine O en.glob ?_;exact gd.g.keeps I.base) hv h) hx.2
theorem load_blt{x:Str}{pos:Pos}{v:Value}{Q:Value→Shared→Prop}(gd:Gd glob)(en:EnvOk A V ao y)(I:Inv y ai Z s.heap Y)(hx:V.isG x)(hm:x∈biNames)(hn:x≠"__name__")(hv:bootBuiltins x=some v)(h:Q v s) :
  wpAny (model prog w) A (eval (.Name x pos) ao) Q E s:=
 Calls.Name_function_global en.kind (en.gl x hx.1) (Calls.loadGlobal_builtin (by refine O en.glob ?_;exact gd.g.keeps I.base) (gd.bi x hm) (by refine O en.blt ?_;exact gd.b.keeps I.base) ((gd.bt x hn).trans hv) h) hx.2
end
noncomputable def biVal:Bi→Value
 | .len=>.builtin "len" | .isi _=>.builtin "isinstance" | .abs=>.builtin "abs" | .int=>.type "int" | .tuple=>.type "tuple" | .list=>.type "list" | .str=>.type "str"
 | _=>.builtin "len"
theorem biName_mem(b:Bi) :biName b∈biNames:=by cases b <;> (dsimp only[biName];decide)
theorem biName_ne(b:Bi) :biName b≠("__name__" :Str):=by cases b <;> (dsimp only [biName]; decide)
theorem boot_bi(b:Bi) :bootBuiltins (biName b)=some (biVal b):=by cases b <;> (dsimp only[biName,biVal];boot_fast)
theorem boot_ty(t:Ty) :bootBuiltins (tyName t)=some (.type<|tyName t):=by cases t <;> (dsimp only[tyName];boot_fast)
theorem boot_zip:bootBuiltins "zip"=some (.type "zip"):=by boot_fast
theorem boot_dict:bootBuiltins "dict"=some (.type "dict"):=by boot_fast
theorem boot_enumerate:bootBuiltins "enumerate"=some (.type "enumerate"):=by boot_fast
theorem boot_rev:bootBuiltins "reversed"=some (.type "reversed"):=by boot_fast
theorem boot_range:bootBuiltins "range"=some (.type "range"):=by boot_fast
end Mv
end
section
set_option backward.match.sparseCases false
namespace Mv
open PySem PyProof.Rows
variable [Hp]
noncomputable abbrev Ins:Type:=Option<|Addr×Obj×Addr
noncomputable def naJ:Ins→Nat
 | none=>0
 | some _=>tb.an.length
noncomputable def locJ(J:Ins)(k:Nat) :Option Loc:=match J with
 | none=>none
 | some (_,_,dx)=>(tb.an[k]?).map fun a=>.attr dx tb.an a
noncomputable def dxJ(J:Ins)(a:Addr) :Prop:= ∃x o,J=some (x,o,a)
noncomputable def selfV:Ins→ay
 | none=>[]
 | some (x,_,_)=>[.ref x]
noncomputable def rbF(f:Nat) :aw:=if f<tb.m0 then [] else(tb.rb[f - tb.m0]?).getD []
theorem locJ_some{J:Ins}{k:Nat}{l:Loc}(h:locJ J k=some l) :k<naJ J∧dxJ J l.addr:=by
 rcases J with _ | ⟨x,o,dx⟩
 .exact nos h
 .obtain⟨a,ha,rfl⟩:=Option.map_eq_some_iff.mp h;exact⟨(List.getElem?_eq_some_iff.mp ha).1,x,o,rfl⟩
structure InsAt(F:Addr→Prop)(ai:Addr→Option Nat)(Z:Addr→Prop)(h:Heap)(x:Addr)(o:Obj)(dx:Addr) :Prop where
 zx:Z x
 ob:h.get? x=some o
 nc:∀c,o.data≠ .cls c
 dic:o.dict=some dx
 ne:dx≠x
 zd:¬Z dx
 od:ai dx=none
 fd:¬F dx
 ok:∃m,h.Ns1 dx m∧Within m tb.an
noncomputable def InsJ(F:Addr→Prop)(ai:Addr→Option Nat)(Z:Addr→Prop)(h:Heap)(J:Ins) :Prop:= ∀x o dx,J=some (x,o,dx)→InsAt F ai Z h x o dx
structure Gh(F:Addr→Prop)(ai:Addr→Option Nat)(Z:Addr→Prop)(h:Heap) :Prop where
 base:∀a o,B.get? a=some o→h.get? a=some o
 zb:∀a o,B.get? a=some o→Z a
 zo:∀a,Z a→ai a=none
 zF:∀a,Z a→ ¬F a
 oF:∀a,ai a≠none→ ¬F a
 zlv:∀a,Z a→ ∃o,h.get? a=some o
 olv:∀a,ai a≠none→ ∃o,h.get? a=some o
 flv:∀a,F a→ ∃o,h.get? a=some o∧NR o
structure GStep(J:Ins)(rb:aw)(F:Addr→Prop)(ai:Addr→Option Nat)(Z:Addr→Prop)(s:Shared)(own':Addr→Option Nat)(Z':Addr→Prop)(s':Shared) :Prop where
 sh:∃h' tk,s'={s with heap:=h',toks:=tk}
 ext:Ext (fun a=>ai a≠none∨dxJ J a) F s.heap s'.heap
 zm:∀a,Z a→Z' a
 zn:∀a,Z' a→Z a∨ai a≠none∨s.heap.get? a=none
 on:∀a i,own' a=some i→ai a=some i∨s.heap.get? a=none
 bind:∀k l v,k∉rb→locJ J k=some l→rdL s.heap l v→rdL s'.heap l v
noncomputable def AtsAt(J:Ins)(ai:Addr→Option Nat)(Z:Addr→Prop)(h:Heap)(sls:List Slot) :Prop:=
 ∀(k:Nat)(sl:Slot)(l:Loc),sls[k]?=some sl→locJ J k=some l→sl≠ .no→ ∃v,rdL h l v∧SlotV h Z (fun a=>ai a=some k) sl v
noncomputable def SlotsAt(J:Ins)(ai:Addr→Option Nat)(Z:Addr→Prop)(h:Heap)(args:List Slot)(vs:ay) :Prop:=
 args.length=naJ J+vs.length∧AtsAt J ai Z h args∧ ∀(k:Nat)(sl:Slot)(v:Value),args[naJ J+k]?=some sl→vs[k]?=some v→sl≠ .no∧SlotV h Z (fun a=>ai a=some (naJ J+k)) sl v
noncomputable def RetAt(F:Addr→Prop)(ai:Addr→Option Nat)(Z:Addr→Prop)(h₀ h:Heap) :Rv→Value→Prop
 | .fz d,v=>Rep h Z v d
 | .ai d,v=> ∃a,v = .ref a∧h₀.get? a=none∧ai a=none∧ ¬F a∧ ¬Z a∧OwnAt h Z a d
 | .pl _,_=>False
noncomputable def OutsAt(ai:Addr→Option Nat)(Z:Addr→Prop)(h:Heap) :Nat→List Slot→ay→List Slot→Prop
 | k,sl::ss,v::vs,outs=>if sl.lent=true then ∃o os,outs=o::os∧(o≠ .no→SlotV h Z (fun a=>ai a=some k) o v)∧OutsAt ai Z h (k+1) ss vs os else OutsAt ai Z h (k+1) ss vs outs
 | _,_,_,_=>True
theorem OutsAt_c{ai:Addr→Option Nat}{Z:Addr→Prop}{h:Heap}{k:Nat}{sl:Slot}{ss:List Slot}{v:Value}{vs:ay}{outs:List Slot} :OutsAt ai Z h k (sl::ss) (v::vs) outs=(if sl.lent=true then ∃o os,outs=o::os∧(o≠ .no→SlotV h Z (fun a=>ai a=some k) o v)∧OutsAt ai Z h (k+1) ss vs os else OutsAt ai Z h (k+1) ss vs outs):=rfl
inductive ExcIs(h:Heap)(P:Addr→Prop)(a:Addr)(nm:Str) :Prop
 | mk (pa:P a) (oe:Obj) (vs:Array Value) (C:Addr) (m:Str→Option Value) :h.get? a=some oe→(oe.cls = .ref C∧oe.dict=none)→oe.data = .fields vs→B.Ns mainGlobals m→m nm=some (.ref C)→
  (vs[1]?=some .none∨ ∃T oT ts,vs[1]?=some (.ref T)∧T≠a∧h.get? T=some oT∧oT.data = .fields ts∧3<ts.size∧P T)→ExcIs h P a nm
theorem ExcIs.mono{h:Heap}{P P':Addr→Prop}{a:Addr}{nm:Str}(x:ExcIs h P a nm)(k:∀b o,h.get? b=some o→P b→P' b) :ExcIs h P' a nm:=by
 refine hidG fun G g=>?_;obtain⟨p,oe,vs,C,m,he,hc,hd,hn,hm,ht⟩:=x;rcases ht with q | ⟨T,oT,ts,h1,h2,h3,h4,h5,h6⟩
 .exact g (⟨k a _ he p,oe,vs,C,m,he,hc,hd,hn,hm,.inl q⟩)
 .exact g (⟨k a _ he p,oe,vs,C,m,he,hc,hd,hn,hm,.inr ⟨T,oT,ts,h1,h2,h3,h4,h5,k T _ h3 h6⟩⟩)
inductive CallPost(J:Ins)(rb:aw)(F:Addr→Prop)(ai:Addr→Option Nat)(Z:Addr→Prop)(s:Shared)(args:List Slot)(vs:ay)(res:aA Rv)(outs:List Slot)(r:Result)(s':Shared) :Prop
 | mk (own':Addr→Option Nat) (Z':Addr→Prop) :Gh F own' Z' s'.heap→InsJ F own' Z' s'.heap J→GStep J rb F ai Z s own' Z' s'→AtsAt J own' Z' s'.heap outs→naJ J≤outs.length→OutsAt own' Z' s'.heap (naJ J) (args.drop<|naJ J) vs (outs.drop<|naJ J)→
  ((∃rv v,res = .ok rv∧r = .ok (.ret v)∧RetAt F own' Z' s.heap s'.heap rv v)∨
   ∃nm a,res = .error nm∧r = .error (.ref a)∧ExcIs s'.heap (fun b=>s.heap.get? b=none∧own' b=none∧ ¬F b∧ ¬Z' b) a nm)→CallPost J rb F ai Z s args vs res outs r s'
noncomputable def FnAt(f:Nat)(d:DefRec)(J:Ins)(fa:Addr) :Prop:=(J=none↔f<tb.m0)∧(∀x o dx,J=some (x,o,dx)→IsK (kf f) o)∧ ∃o qual pm code doc,B.get? fa=some o∧o.data = .func (methDef d.name qual d.params d.body d.scope pm code doc)∧B.CodeRec code qual
noncomputable def CallSpec(n:Nat)(call:Nat→List Slot→Option (aA Rv×List Slot)) :Prop:=
 ∀f args res outs,call f args=some (res,outs)→ ∀(d:DefRec),tb.fn[f]?=some d→ ∀(J:Ins) fa,FnAt f d J fa→ ∀(A:Around)(F:Addr→Prop)(ai:Addr→Option Nat)(Z:Addr→Prop)(s:Shared)(vs:ay),
  A.depth+2*n≤999→A.units+8*n≤4000→A.handled=none→FrOk F A→Gh F ai Z s.heap→InsJ F ai Z s.heap J→SlotsAt J ai Z s.heap args vs→
  codeAny (model prog w) A (.call (.ref fa) ⟨selfV J++vs,[]⟩) (CallPost J (rbF f) F ai Z s args vs res outs) s
noncomputable def posOf(rs:List Rv)(i:Nat) :Nat→Option Nat
 | k=>match rs with
  | []=>none
  | .pl (.var j)::rs=>if j=i then some k else posOf rs i (k+1)
  | _::rs=>posOf rs i<|k+1
theorem posOf_get:∀{rs:List Rv}{i k j:Nat},posOf rs i k=some j→k≤j∧rs[j - k]?=some (.pl<|.var i):=by intro rs i k j h;induction rs generalizing i k j with
 | nil=>exact nos h
 | cons r rs ih=>
  have tail:posOf rs i (k+1)=some j→k≤j∧(r::rs)[j - k]?=some (.pl<|.var i):=fun h=>by
   obtain⟨h1,h2⟩:=ih h;refine⟨by exact(Ln [k,j] (.w .x .y) [Gl (.p 1 .x) .y] rfl h1),?_⟩;obtain⟨m,rfl⟩ :∃m,j=k+1+m:=⟨j - (k+1),by exact(Le [j,k,j - (k+(1:Nat))] (.e .x<|.a (.p 1 .y) .z) [Gq (.a .z<|.p 1 .y) .x] rfl<|Nat.sub_add_cancel (n:=j) (m:=k+(1:Nat)) h1)⟩
   refine O (show k+1+m - k=m+1 from by exact(Le [k+(1:Nat)+m - k,m,k] (.e .x<|.p 1 .y) [Gp (.a .x .z)<|.a (.p 1 .z) .y] rfl<|Nat.sub_add_cancel (n:=k+(1:Nat)+m) (m:=k)<|Ln [k,m] (.w .x<|.a (.p 1 .x) .y) [Gl (.p 1 .x)<|.a (.p 1 .x) .y] rfl h1))<|O (List.getElem?_cons_succ) ?_;rw[show k+1+m - (k+1)=m from by exact(Le [k+(1:Nat)+m - (k+(1:Nat)),m,k] (.e .x .y) [Gp (.a .x<|.p 1 .z)<|.a (.p 1 .z) .y] rfl<|Nat.sub_add_cancel (n:=k+(1:Nat)+m) (m:=k+(1:Nat)) h1)]at h2;exact h2
  cases r with
  | fz d=>exact tail h
  | ai d=>exact tail h
  | pl p=>cases p with
   | var j'=>
    have h:(if j'=i then some k else posOf rs i (k+1))=some j:=h;by_cases q:j'=i
    .rw[if_pos q]at h;refine O (sos h) ?_;subst q;exact⟨Nat.le_refl _,by simp⟩
    .rw[if_neg q]at h;exact tail h
theorem mem_roots:∀{rs:List Rv}{j i:Nat},rs[j]?=some (.pl<|.var i)→i∈roots rs:=by intro rs j i h;induction rs generalizing j i with
 | nil=>simp at h
 | cons r rs ih=>cases j with
  | zero=>simp at h;subst h;exact List.mem_cons_self
  | succ j=>have:=ih h;cases r with
    | pl p=>cases p;exact List.mem_cons_of_mem _ this
    | fz _=>exact this
    | ai _=>exact this
theorem posOf_at:∀{rs:List Rv}{j i k:Nat},(roots rs).Nodup→rs[j]?=some (.pl<|.var i)→posOf rs i k=some (k+j):=by intro rs j i k nd h;induction rs generalizing j i k with
 | nil=>simp at h
 | cons r rs ih=>cases j with
  | zero=>simp at h;subst h;exact if_pos rfl
  | succ j=>
    have h':rs[j]?=some (.pl<|.var i):=by exact h
    have e:k+(j+1)=k+1+j:=by exact(Nat.le_antisymm (Ln [k,j] (.w (.a .x<|.p 1 .y)<|.a (.p 1 .x) .y) [] rfl)<|Ln [k,j] (.w (.a (.p 1 .x) .y)<|.a .x<|.p 1 .y) [] rfl)
    cases r with
    | pl p=>cases p with
     | var j'=>
      rw[roots_v,List.nodup_cons]at nd;show(if j'=i then some k else posOf rs i (k+1))=_
      exact O (if_neg (fun q:j'=i=>nd.1 (by refine O q ?_;exact mem_roots h')))<|O e<|ih nd.2 h'
    | fz _=>exact O e<|ih nd h'
    | ai _=>exact O e<|ih nd h'
noncomputable def frz:Rv→Rv
 | .ai d=>.fz d
 | r=>r
noncomputable def RvsAt(y:Lay)(ai:Addr→Option Nat)(Z:Addr→Prop)(h₀ h:Heap) :List Rv→ay→Prop
 | [],[]=>True
 | r::rs,v::vs=>RvAt y ai Z h₀ h (frz r) v∧RvsAt y ai Z h₀ h rs vs
 | _,_=>False
theorem RvsAt.one{y:Lay}{ai:Addr→Option Nat}{Z:Addr→Prop}{h₀ h:Heap}{r:Rv}{vs:ay}(R:RvsAt y ai Z h₀ h [r] vs) :∃v,vs=[v]∧RvAt y ai Z h₀ h (frz r) v:=by cases vs with
 | nil=>exact R.elim
 | cons v vs=>cases vs with
  | nil=>exact⟨v,rfl,R.1⟩
  | cons _ _=>exact R.2.elim
theorem RvsAt.length{y:Lay}{ai:Addr→Option Nat}{Z:Addr→Prop}{h₀ h:Heap} :∀{rs:List Rv}{vs:ay},RvsAt y ai Z h₀ h rs vs→rs.length=vs.length:=by intro rs vs h;induction rs generalizing vs with
 | nil=>cases vs with
  | nil=>exact rfl
  | cons x2 x3=>exact h.elim
 | cons x1 rs ih=>cases vs with
  | nil=>exact h.elim
  | cons x4 vs=>exact O List.length_cons<|O List.length_cons<|O (ih h.2) rfl
theorem RvsAt.get{y:Lay}{ai:Addr→Option Nat}{Z:Addr→Prop}{h₀ h:Heap} :∀{rs:List Rv}{vs:ay}{k:Nat}{r:Rv}{v:Value},RvsAt y ai Z h₀ h rs vs→rs[k]?=some r→vs[k]?=some v→RvAt y ai Z h₀ h (frz r) v:=by intro rs vs k x1 x2 h e e';induction rs generalizing vs k x1 x2 e' with
 | nil=>cases vs with
  | nil=>simp at e
  | cons x3 x4=>exact h.elim
 | cons r rs ih=>cases vs with
  | nil=>exact h.elim
  | cons v vs=>cases k with
   | zero=>simp at e e';subst e;subst e';exact h.1
   | succ k=>exact ih h.2 e e'
noncomputable def argSlot(Y:Fm) :Rv→Option Slot
 | .fz d=>some<|Slot.fz d
 | .ai d=>some<|.fz d
 | .pl (.var i)=>(match Y[i]? with
  | some (.fz d)=>some<|.fz d
  | some (.ai d)=>some<|.ai d
  | _=>none)
theorem argSlots_cons{Y:Fm}{r:Rv}{rs:List Rv}{ss:List Slot}(h:argSlots Y (r::rs)=some ss) :∃sl ss',ss=sl::ss'∧argSlot Y r=some sl∧argSlots Y rs=some ss':=by
 have h:(match argSlot Y r,argSlots Y rs with
  | some s,some ss=>some (s::ss)
  | _,_=>none)=some ss:=by
  cases r with
  | fz d=>exact h
  | ai d=>exact h
  | pl p=>cases p;exact h
 cases h1:argSlot Y r with
 | none=>rw[h1]at h;exact nos h
 | some sl=>rw[h1]at h;cases h2:argSlots Y rs with
  | none=>rw[h2]at h;exact nos h
  | some ss'=>rw[h2]at h;exact O (sos h).symm ⟨sl,ss',rfl,rfl,rfl⟩
theorem argSlots_get{Y:Fm} :∀{rs:List Rv}{ss:List Slot},argSlots Y rs=some ss→rs.length=ss.length∧ ∀(k:Nat)(r:Rv),rs[k]?=some r→ ∃sl,ss[k]?=some sl∧argSlot Y r=some sl:=by intro rs ss h;induction rs generalizing ss with
 | nil=>obtain rfl:=sos (show some []=some ss from h);exact⟨rfl,fun k r e=>by simp at e⟩
 | cons r rs ih=>refine ex2 (argSlots_cons h) fun sl ss' q=>?_;refine O q.1 ?_;have Q:=ih q.2.2;refine⟨by simp[Q.1],fun k r' e=>?_⟩;cases k with
  | zero=>simp at e;subst e;exact⟨sl,rfl,q.2.1⟩
  | succ k=>simpa using Q.2 k r' e
set_option tactic.hygienic true in
theorem argSlot_lent{Y:Fm}{r:Rv}{sl:Slot}(h:argSlot Y r=some sl)(hl:sl.lent=true) :∃i,r = .pl (.var i)∧Y[i]?=some sl:=by unfold argSlot at h;split at h <;> first
  | (obtain rfl:=sos h;exact nomatch hl;done)
  | (rename_i i;refine⟨i,rfl,?_⟩;split at h <;> first | (exact nos h;cases hl;done) | (refine O (sos h).symm ?_;assumption) | (exact nos h;done))
  | (exact nos h;done)
noncomputable def ownC(ai:Addr→Option Nat)(rs:List Rv)(a:Addr) :Option Nat:=(ai a).bind fun i=>posOf rs i 0
noncomputable def rootAt(rs:List Rv)(k:Nat) :Option Nat:=match rs[k]? with
 | some (.pl<|.var i)=>some i
 | _=>none
noncomputable def ownB(ai ownN:Addr→Option Nat)(rs:List Rv)(a:Addr) :Option Nat:=match ownN a with
 | some k=>rootAt rs k
 | none=>match ai a with
  | some i=>(match posOf rs i 0 with
   | some _=>none
   | none=>some i)
  | none=>none
theorem ownC_some{ai:Addr→Option Nat}{rs:List Rv}{a:Addr}{k:Nat}(h:ownC ai rs a=some k) :∃i,ai a=some i∧posOf rs i 0=some k:=Option.bind_eq_some_iff.mp h
theorem ownC_ne{ai:Addr→Option Nat}{rs:List Rv}{a:Addr}(h:ownC ai rs a≠none) :ai a≠none:=fun e=>h (by unfold ownC;refine O e ?_;rfl)
section
variable {y:Lay}{ai:Addr→Option Nat}{Z:Addr→Prop}{s s':Shared}{Y:Fm}{rs:List Rv}{ss outs:List Slot}{vs:ay}
theorem call_gh(I:Inv y ai Z s.heap Y)(rs:List Rv) :Gh (fun a=>y.F a∨a=y.L) (ownC ai rs) Z s.heap where
 base:=I.base
 zb:=I.zb
 zo:=fun a z=>by unfold ownC;refine O (I.zo a z) ?_;rfl
 zF:=fun a z f=>f.elim (I.zF a z) fun e=>I.zL<|e▸z
 oF:=fun a h f=>f.elim (I.oF a<|ownC_ne h) fun e=>ownC_ne h<|e▸I.oL
 zlv:=I.zlv
 olv:=fun a h=>I.olv a<|ownC_ne h
 flv:=fun a f=>f.elim (I.flv a) fun e=>let ⟨m,o,_,_,h,hd,_⟩:=I.nsL;⟨o,e▸h,fun vs q=>by have q:=hd▸q;exact nomatch q⟩
noncomputable def asR(as:aw) :List Rv:=as.map fun i=>.pl<|.var i
theorem roots_asR(as:aw)(rs:List Rv) :roots (asR as++rs)=as++roots rs:=by induction as with
 | nil=>rfl
 | cons i as ih=>exact congrArg (i :: ·) ih
theorem asR_get{as:aw}{rs:List Rv}{k i:Nat}(h:as[k]?=some i) :(asR as++rs)[k]?=some (.pl<|.var i):=by refine O (List.getElem?_append_left (by unfold asR;exact O (List.length_map _)<|(List.getElem?_eq_some_iff.mp h).1)) ?_;unfold asR;exact O List.getElem?_map<|O h rfl
theorem asR_rest{as:aw}{rs:List Rv}{k:Nat} :(asR as++rs)[as.length+k]?=rs[k]?:=by refine O (List.getElem?_append_right (by exact O (List.length_map _)<|Nat.le_add_right _ _)) ?_;exact O (List.length_map _)<|congrArg (rs[·]?)<|Nat.add_sub_cancel_left _ _
structure AsAt(y:Lay)(as:aw)(J:Ins) :Prop where
 len:as.length=naJ J
 at':∀(k i:Nat),as[k]?=some i→ ∃l,locJ J k=some l∧y.loc i=some l
 full:∀i l,y.loc i=some l→dxJ J l.addr→ ∃(k:Nat)(a:Addr)(ns:ax)(x:Str),as[k]?=some i∧l = .attr a ns x
 si:∀p,y.slf=some p→y.si∉as
 slf:∀x o dx,J=some (x,o,dx)→y.slf=some (x,o)∧(∀c,o.data≠ .cls c)∧o.dict=some dx∧dx≠x∧ ∃i a,y.loc i=some (.attr dx tb.an a)
theorem call_ins{as:aw}{J:Ins}(I:Inv y ai Z s.heap Y)(q:AsAt y as J)(rs:List Rv) :InsJ (fun a=>y.F a∨a=y.L) (ownC ai rs) Z s.heap J:=fun x o dx e=>by refine hidG fun G g=>?_;obtain⟨e1,e3,e4,e5,i,a,hl⟩:=q.slf x o dx e;exact g<|⟨(I.sf _ e1).z,(I.sf _ e1).ob,e3,e4,e5,I.zl i _ hl,by unfold ownC;exact O (I.ol i _ hl) rfl,fun f=>f.elim (I.wf.nf i _ hl)<|I.wf.al i _ _ _ hl,I.ok i _ hl⟩
theorem atsOf_get{as:aw}{Y:Fm}{k:Nat}{sl:Slot}(h:(atsOf Y as)[k]?=some sl)(n:sl≠ .no) :∃i,as[k]?=some i∧Y[i]?=some sl:=by unfold atsOf at h;rw[List.getElem?_map]at h;refine ex1 (Option.map_eq_some_iff.mp h) fun i Q=>?_;have hi:=Q.1;have e:=Q.2;refine⟨i,hi,?_⟩;cases q:Y[i]? with
 | none=>rw[q]at e;exact absurd e.symm n
 | some x=>rw[q]at e;exact congrArg some e
set_option tactic.hygienic true in
theorem call_slots{as:aw}{J:Ins}(I:Inv y ai Z s.heap Y){h₀:Heap}(hr:RvsAt y ai Z h₀ s.heap rs vs)(hs:argSlots Y rs=some ss)(nd:(as++roots rs).Nodup)(q:AsAt y as J) :SlotsAt J (ownC ai<|asR as++rs) Z s.heap (atsOf Y as++ss) vs:=by
 obtain⟨hlen,hget⟩:=argSlots_get hs;have nd':(roots<|asR as++rs).Nodup:=by rw[roots_asR];exact nd
 have la:(atsOf Y as).length=naJ J:=by unfold atsOf;exact O (List.length_map _) q.len
 have mo:∀{i k:Nat},(asR as++rs)[k]?=some (.pl<|.var i)→ ∀a,ai a=some i→ownC ai (asR as++rs) a=some k:=fun hk a e=>by unfold ownC;refine O e ?_;show posOf _ _ 0=_;refine O (posOf_at nd' hk) ?_;rw[Nat.zero_add]
 refine⟨by exact O List.length_append<|O la<|O hlen.symm<|O hr.length rfl,fun k sl l e hl n=>?_,fun k sl v e e'=>?_⟩
 .have hk:=(locJ_some hl).1;rw[List.getElem?_append_left (by refine O la ?_;exact hk)]at e;refine hidG fun G g=>?_;obtain⟨i,hi,hf⟩:=atsOf_get e n;obtain⟨l',hl',hy⟩:=q.at' k i hi;rw[hl]at hl';obtain rfl:=sos hl';obtain⟨l2,v,hl2,hr2,sv⟩:=I.at' i sl hf n;rw[hy]at hl2;obtain rfl:=sos hl2;exact g<|⟨v,hr2,sv.mono (fun j0_ j1_ j2_ e=>e) (fun j0_ z=>z) (mo<|asR_get hi) fun j0_ j1_ j2_ e=>e⟩
 .have e:=la.symm▸e;rw[List.getElem?_append_right<|Nat.le_add_right _ _,Nat.add_sub_cancel_left]at e;have hk:k<rs.length:=by exact O hlen ((List.getElem?_eq_some_iff.mp e).1)
  obtain⟨sl',e2,h2⟩:=hget k _<|List.getElem?_eq_getElem hk;have e2:=e▸e2;refine O (sos e2) ?_;have q1:=hr.get (List.getElem?_eq_getElem hk) e';generalize hrk:rs[k]=r at *;have hrk':rs[k]?=some r:=by exact O (List.getElem?_eq_getElem hk)<|O hrk rfl
  cases r with
  | fz d=>obtain rfl:=sos h2;exact⟨(fun n=>by exact nomatch n),q1⟩
  | ai d=>obtain rfl:=sos h2;exact⟨(fun n=>by cases n),q1⟩
  | pl p=>cases p with
   | var i=>
    obtain⟨l,q1⟩:=q1;have hl:=q1.1;have hv:=q1.2;have key:∀sl,Y[i]?=some sl→sl≠ .no→SlotV s.heap Z (fun a=>ai a=some i) sl v:=fun sl e n=>by obtain⟨l',v',hl',hv',q⟩:=I.at' i sl e n;rw[hl]at hl';obtain rfl:=sos hl';exact O (hv.det hv') q
    have mo:=mo (i:=i) (k:=naJ J+k) (by refine O q.len.symm<|O asR_rest ?_;exact hrk');simp only[argSlot]at h2;split at h2
    .rename_i d e9;exact O (sos h2).symm<|⟨(fun n=>by exact nomatch n),key _ e9 (by intro n;exact nomatch n)⟩
    .rename_i d e9;obtain rfl:=sos h2;exact⟨(fun n=>by cases n),(key _ e9 (by intro n;exact nomatch n)).mono (fun j0_ j1_ j2_ e=>e) (fun j0_ z=>z) mo fun j0_ j1_ j2_ e=>e⟩
    .exact nos h2
theorem Ns_slots{h h':Heap}{a:Addr}{m:Str→Option Value}(hn:h.Ns a m)(k:∀o,h.get? a=some o→ ∃sl,h'.get? a=some {o with slots:=sl}) :h'.Ns a m:=by exact ex3 hn fun o es ep hn=>(ex1 (k o hn.1) fun sl e=>(⟨_,es,ep,e,hn.2⟩))
theorem copyOut_get{own':Addr→Option Nat}{Z':Addr→Prop}{h:Heap} :∀{rs:List Rv}{ss outs:List Slot}{vs:ay}{Y:Fm}{k j:Nat}{sl:Slot},OutsAt own' Z' h k ss vs outs→rs.length=ss.length→ss.length=vs.length→
  (∀(m:Nat)(r:Rv)(sl:Slot),rs[m]?=some r→ss[m]?=some sl→sl.lent=true→ ∃i,r = .pl (.var i))→(copyOut Y rs ss outs)[j]?=some sl→
  (∃(m:Nat)(s0:Slot)(v:Value),rs[m]?=some (.pl<|.var j)∧ss[m]?=some s0∧s0.lent=true∧vs[m]?=some v∧(sl≠ .no→SlotV h Z' (fun a=>own' a=some (k+m)) sl v))∨(Y[j]?=some sl∧((roots rs).Nodup→ ∀(m:Nat)(s0:Slot),rs[m]?=some (.pl<|.var j)→ss[m]?=some s0→s0.lent=false)):=by
 intro rs ss outs vs Y k j sl af h h9 hl e;induction rs generalizing ss outs vs Y k j sl af h9 with
 | nil=>refine .inr ⟨?_,fun j0_ m s0 e=>by simp at e⟩;cases ss with
   | nil=>exact e
   | cons x1 x2=>exact absurd h.symm<|Nat.succ_ne_zero _
 | cons r rs ih=>cases ss with
  | nil=>simp at h
  | cons s0 ss=>cases vs with
   | nil=>simp at h9
   | cons v vs=>
     have h1':rs.length=ss.length:=by simpa using h
     have h2':ss.length=vs.length:=by simpa using h9
     have hl':∀(m:Nat)(r:Rv)(sl:Slot),rs[m]?=some r→ss[m]?=some sl→sl.lent=true→ ∃i,r = .pl (.var i):=fun m r sl e1 e2=>hl (m+1) r sl e1 e2;rw[OutsAt_c]at af;rw[copyOut_c]at e;by_cases q:s0.lent=true
     .rw[if_pos q]at af;obtain⟨o,os,af⟩:=af;obtain rfl:=af.1;refine ex1 (hl 0 r s0 rfl rfl q) fun i Q=>?_;subst Q;rw[if_pos q]at e;dsimp only at e;rcases ih af.2.2 h1' h2' hl' e with⟨m,s1,v',a1,a2,a3,a4,a5⟩ | ⟨a1,a2⟩
      .exact .inl ⟨m+1,s1,v',by exact a1,by exact a2,a3,by exact a4,fun n=>by have:=a5 n;rwa [show k+1+m=k+(m+1) from by exact(Nat.le_antisymm (Ln [k,m] (.w (.a (.p 1 .x) .y)<|.a .x<|.p 1 .y) [] rfl)<|Ln [k,m] (.w (.a .x<|.p 1 .y)<|.a (.p 1 .x) .y) [] rfl)]at this⟩
      .rcases set_get a1 with⟨rfl,rfl⟩ | ⟨hne,a1⟩
       .exact .inl ⟨0,s0,v,rfl,rfl,q,rfl,af.2.1⟩
       .refine .inr ⟨a1,fun nd m s1 e1 e2=>?_⟩;refine hidG fun G2 g2=>?_;cases m with
        | zero=>refine g2 ?_;cases Option.some.inj (show some (Rv.pl<|.var _)=some (Rv.pl<|.var _) from e1);exact absurd rfl hne
        | succ m=>exact g2<|a2 (List.nodup_cons.mp nd).2 m s1 e1 e2
     .rw[if_neg q]at af e;rcases ih af h1' h2' hl' e with⟨m,s1,v',a1,a2,a3,a4,a5⟩ | ⟨a1,a2⟩
      .exact .inl ⟨m+1,s1,v',by exact a1,by exact a2,a3,by exact a4,fun n=>by have:=a5 n;rwa [show k+1+m=k+(m+1) from by exact(Nat.le_antisymm (Ln [k,m] (.w (.a (.p 1 .x) .y)<|.a .x<|.p 1 .y) [] rfl)<|Ln [k,m] (.w (.a .x<|.p 1 .y)<|.a (.p 1 .x) .y) [] rfl)]at this⟩
      .refine .inr ⟨a1,fun nd m s1 e1 e2=>?_⟩;refine hidG fun G3 g3=>?_;cases m with
       | zero=>refine g3 ?_;simp at e2;subst e2;simpa using q
       | succ m=>refine g3 ?_;refine a2 ?_ m s1 e1 e2;refine hidG fun G g=>?_;cases r with
        | pl p=>refine g ?_;refine hidG fun G1 g1=>?_;cases p with
         | var i=>exact g1 (List.nodup_cons.mp nd).2
        | fz _=>exact g nd
        | ai _=>exact g nd
end
end Mv
end
section
set_option backward.match.sparseCases false
namespace Mv
open PySem PyProof.Rows
variable [Hp]
section
variable {y:Lay}{ai:Addr→Option Nat}{Z:Addr→Prop}{s s':Shared}{Y:Fm}{rs:List Rv}{ss outs:List Slot}{vs:ay}
set_option tactic.hygienic true in
theorem ownB_some{ai ownN:Addr→Option Nat}{rs:List Rv}{a:Addr}{i:Nat}(h:ownB ai ownN rs a=some i) :(∃k,ownN a=some k∧rs[k]?=some (.pl<|.var i))∨(ownN a=none∧ai a=some i∧posOf rs i 0=none):=by
 unfold ownB at h;refine hidG fun G g=>?_;split at h
 .refine g ?_;rename_i k hk;unfold rootAt at h;split at h
  .rename_i j hj;exact O (sos h).symm<|.inl ⟨k,hk,hj⟩
  .exact nos h
 .refine g ?_;rename_i hk;split at h
  .rename_i j hj;split at h
   .exact nos h
   .rename_i hp;exact O (sos h).symm<|.inr ⟨hk,hj,hp⟩
  .exact nos h
theorem setAts_get:∀{as:aw}{outs:List Slot}{Y:Fm}{j:Nat}{sl:Slot},as.Nodup→as.length≤outs.length→(setAts Y as outs)[j]?=some sl→(∃k:Nat,as[k]?=some j∧outs[k]?=some sl)∨(j∉as∧Y[j]?=some sl):=by intro as;induction as with
 | nil=>intro outs Y j sl _ _ h;exact .inr ⟨(fun q=>by exact nomatch q),by cases outs <;> exact h⟩
 | cons i as ih=>intro outs Y j sl nd hl h;cases outs with
  | nil=>exact absurd hl<|Nat.not_succ_le_zero _
  | cons o os=>
   rcases ih (List.nodup_cons.mp nd).2 (Nat.le_of_succ_le_succ hl) (show(setAts (Y.set i o) as os)[j]?=some sl from h) with⟨k,h1,h2⟩ | ⟨h1,h2⟩
   .exact .inl ⟨k+1,h1,h2⟩
   .rcases set_get h2 with⟨rfl,rfl⟩ | ⟨hne,h2⟩
    .exact .inl ⟨0,rfl,rfl⟩
    .exact .inr ⟨fun q=>(List.mem_cons.mp q).elim hne h1,h2⟩
noncomputable def rbA(rb as:aw) :aw:=rb.filterMap fun k=>as[k]?
theorem rbA_mem{rb as:aw}{i:Nat}(h:i∈rbA rb as) :i∈as:=by obtain⟨k,_,e⟩:=List.mem_filterMap.mp h;exact List.mem_of_getElem? e
theorem call_back{as rb:aw}{J:Ins}{res:aA Rv}{r:Result}(I:Inv y ai Z s.heap Y){h₀:Heap}(hr:RvsAt y ai Z h₀ s.heap rs vs)(hs:argSlots Y rs=some ss)(nd:(as++roots rs).Nodup)(q:AsAt y as J)
  (P:CallPost J rb (fun a=>y.F a∨a=y.L) (ownC ai<|asR as++rs) Z s (atsOf Y as++ss) vs res outs r s') :
  ∃own' Z',Inv y own' Z' s'.heap (copyOut (setAts Y as outs) rs ss<|outs.drop as.length)∧Step y (rbA rb as) ai Z s own' Z' s'∧((∃rv v,res = .ok rv∧r = .ok (.ret v)∧RvAt y own' Z' s.heap s'.heap rv v)∨
   ∃nm a,res = .error nm∧r = .error (.ref a)∧ExcIs s'.heap (fun b=>s.heap.get? b=none∧ ¬y.wr own' b∧ ¬y.F b∧ ¬Z' b) a nm):=by
 obtain⟨ownN,Z',G,IJ,S,AT,hna,af,R⟩:=P;have nd':(roots<|asR as++rs).Nodup:=by rw[roots_asR];exact nd
 have nda:as.Nodup:=(List.nodup_append.mp nd).1;have ndr:(roots rs).Nodup:=(List.nodup_append.mp nd).2.1;have dis:∀i,i∈roots rs→i∉as:=fun i h1 h2=>(List.nodup_append.mp nd).2.2 i h2 i h1 rfl;have la:(atsOf Y as).length=as.length:=by unfold atsOf;exact List.length_map _
 have u:=argSlots_get hs;have hlen:=u.1;have hget:=u.2;have hlen':ss.length=vs.length:=by exact O hlen.symm<|O hr.length rfl
 rw[← q.len,← la,List.drop_left]at af;rw[la]at af;have IJ0:=call_ins I q<|asR as++rs;have dz:∀a,dxJ J a→ ¬Z a:=fun a ⟨x,o,e⟩=>(IJ0 x o a e).zd;have asl:∀(k i:Nat) l,as[k]?=some i→y.loc i=some l→locJ J k=some l:=fun k i l e hl=>by obtain⟨l',h1,h2⟩:=q.at' k i e;rw[hl]at h2;obtain rfl:=sos h2;exact h1
 generalize hR:asR as++rs=RS at *;have RSa:∀(k i:Nat),as[k]?=some i→RS[k]?=some (.pl<|.var i):=fun k i e=>hR▸asR_get e;have RSr:∀k:Nat,RS[as.length+k]?=rs[k]?:=fun k=>hR▸asR_rest
 -- what stays
 have nwr:∀a,ai a=none→ ¬dxJ J a→ ¬(ownC ai RS a≠none∨dxJ J a):=fun a e n w=>w.elim (fun w=>ownC_ne w e) n;have keep:∀a o,s.heap.get? a=some o→ai a=none→ ¬y.F a→a≠y.L→ ¬dxJ J a→s'.heap.get? a=some o:=fun a o e n f l nx=>S.ext.keep a o e (nwr a n nx) fun w=>w.elim f l;have keepC:∀a o,s.heap.get? a=some o→ownC ai RS a=none→ ¬y.F a→a≠y.L→ ¬dxJ J a→s'.heap.get? a=some o:=fun a o e n f l nx=>S.ext.keep a o e (fun w=>w.elim (fun w=>w n) nx) fun w=>w.elim f l;have keepZ:∀a o,Z a→s.heap.get? a=some o→s'.heap.get? a=some o:=fun a o z e=>keep a o e (I.zo a z) (I.zF a z) (fun q=>I.zL<|q▸z) fun x=>dz a x z;have slL:∀o,s.heap.get? y.L=some o→ ∃sl,s'.heap.get? y.L=some {o with slots:=sl}:=fun o e=>S.ext.fram y.L o (.inr rfl) e;have odx:∀a,ai a≠none→ ¬dxJ J a:=fun a h ⟨x,o,e⟩=>by obtain⟨_,_,_,_,i,z,hl⟩:=q.slf x o a e;exact h<|I.ol i _ hl
 have rdk:∀i l v,i∉rbA rb as→y.loc i=some l→rdL s.heap l v→rdL s'.heap l v:=fun i l v hb hl hv=>by
  by_cases hx:dxJ J l.addr
  .obtain⟨k,_,_,_,hk,_⟩:=q.full i l hl hx;exact S.bind k l v (fun m=>hb<|List.mem_filterMap.mpr ⟨k,m,hk⟩) (asl k i l hk hl) hv
  by_cases e:l.addr=y.L
  .cases l with
   | dict a x=>obtain⟨m,hv⟩:=hv;subst e;exact⟨m,Ns_slots hv.1 slL,hv.2⟩
   | cell a=>exact absurd e<|I.wf.cl i a hl
   | attr a ns x=>exact absurd e<|I.wf.al i a ns x hl
  .exact hv.keeps fun o e'=>keep _ o e' (I.ol i l hl) (I.wf.nf i l hl) e hx
 have okk:∀i l,y.loc i=some l→okL s.heap l→okL s'.heap l:=fun i l hl hv=>by
  by_cases hx:dxJ J l.addr
  .obtain⟨k,a,ns,x,hk,rfl⟩:=q.full i l hl hx;have h1:=asl k i _ hk hl;obtain⟨x0,o0,hJ⟩:=hx;subst hJ;obtain⟨z,_,e⟩:=Option.map_eq_some_iff.mp h1;cases e;exact(IJ x0 o0 _ rfl).ok
  by_cases e:l.addr=y.L
  .cases l with
   | dict a x=>obtain⟨m,hn⟩:=hv;subst e;exact⟨m,Ns_slots hn slL⟩
   | cell a=>exact absurd e<|I.wf.cl i a hl
   | attr a ns x=>exact absurd e<|I.wf.al i a ns x hl
  .exact hv.keeps fun o e'=>keep _ o e' (I.ol i l hl) (I.wf.nf i l hl) e hx
 have nN:∀a o,s.heap.get? a=some o→ownC ai RS a=none→ownN a=none:=fun a o e n=>by cases q:ownN a with
  | none=>rfl
  | some k=>
   rcases S.on a k q with q | q
   .rw[n]at q;exact nos q
   .have q:=e▸q;exact nomatch q
 have oB:∀a i,ownB ai ownN RS a=some i→ai a=some i∨s.heap.get? a=none:=fun a i q=>by
  rcases ownB_some q with⟨k,hk,hj⟩ | ⟨_,q,_⟩
  .rcases S.on a k hk with q | q
   .refine ex1 (ownC_some q) fun i' U=>?_;obtain⟨_,h2⟩:=posOf_get U.2;rw[Nat.sub_zero]at h2;have h2:=hj▸h2;cases h2;exact .inl U.1
   .exact .inr q
  .exact .inl q
 have oBk:∀a,ownB ai ownN RS a≠none→ownN a≠none∨(ownC ai RS a=none∧ai a≠none):=fun a q=>by cases e:ownB ai ownN RS a with
  | none=>exact absurd e q
  | some i=>
   rcases ownB_some e with⟨k,hk,_⟩ | ⟨_,h,hp⟩
   .exact .inl (by refine O hk ?_;exact fun n=>by exact nomatch n)
   .exact .inr ⟨by unfold ownC;refine O h ?_;exact hp,by refine O h ?_;exact fun n=>by cases n⟩
 have zn:∀a,Z' a→Z a∨ai a≠none∨s.heap.get? a=none:=fun a z=>(S.zn a z).imp id fun q=>q.imp ownC_ne id;have sib:∀p,y.slf=some p→y.si∉rbA rb as:=fun p e m=>q.si p e<|rbA_mem m;have inv:Inv y (ownB ai ownN RS) Z' s'.heap (copyOut (setAts Y as outs) rs ss<|outs.drop as.length):=by
  refine⟨I.wf,G.base,G.zb,fun a z=>?_,fun i l hl z=>?_,fun i l hl=>?_,fun z=>?_,?_,fun a z f=>G.zF a z<|.inl f,fun a q f=>?_,G.zlv,fun a q=>?_,fun a f=>G.flv a<|.inl f,fun i l hl=>okk i l hl<|I.ok i l hl,?_,fun p e=>(I.sf p e).mono keepZ S.zm fun l v hl r=>rdk _ l v (sib p e) hl r,fun j sl e n=>?_⟩
  .-- zo
   cases q:ownB ai ownN RS a with
   | none=>rfl
   | some i=>
    rcases ownB_some q with⟨k,hk,_⟩ | ⟨hN,ho,hp⟩
    .rw[G.zo a z]at hk;exact nos hk
    .rcases S.zn a z with z | z | z
     .rw[I.zo a z]at ho;exact nos ho
     .exact absurd (by unfold ownC;refine O ho ?_;exact hp) z
     .obtain⟨o,e⟩:=I.olv a (by refine O ho ?_;exact fun n=>by exact nomatch n);rw[z]at e;exact nos e
  .-- zl
   obtain⟨o,e⟩:=(I.ok i l hl).live;rcases S.zn _ z with z | z | z
   .exact I.zl i l hl z
   .exact ownC_ne z (I.ol i l hl)
   .rw[z]at e;exact nos e
  .-- ol
   cases q:ownB ai ownN RS l.addr with
   | none=>rfl
   | some k=>
    obtain⟨o,e⟩:=(I.ok i l hl).live;rcases oB _ _ q with q | q
    .rw[I.ol i l hl]at q;exact nos q
    .rw[q]at e;exact nos e
  .exact G.zF _ z (.inr rfl)
  .cases q:ownB ai ownN RS y.L with
   | none=>rfl
   | some k=>
    refine ex4 I.nsL fun m o j0_ j1_ Q=>?_;have e:=Q.1;rcases oB _ _ q with q | q
    .rw[I.oL]at q;exact nos q
    .rw[q]at e;exact nos e
  .rcases oBk a q with q | ⟨q,q'⟩
   .exact G.oF a q (.inl f)
   .exact I.oF a q' f
  .rcases oBk a q with q | ⟨q,q'⟩
   .exact G.olv a q
   .obtain⟨o,e⟩:=I.olv a q';exact S.ext.live a o e
  .obtain⟨m,hn⟩:=I.nsL;exact⟨m,Ns_slots hn slL⟩
  .-- the slots
   rcases copyOut_get af hlen hlen' (fun m r sl e1 e2 hl=>by obtain⟨sl',e3,h3⟩:=hget m r e1;rw[e2]at e3;obtain rfl:=sos e3;obtain⟨i,J⟩:=argSlot_lent h3 hl;exact⟨i,J.1⟩) e with⟨m,s0,v',a1,a2,a3,a4,a5⟩ | ⟨a1,a2⟩
   .have q1:=hr.get a1 a4;refine ex1 q1 fun l q1=>?_;refine⟨l,v',q1.1,rdk j l v' (fun m=>dis j (mem_roots a1)<|rbA_mem m) q1.1 q1.2,(a5 n).mono (fun j0_ j1_ j2_ e=>e) (fun j0_ z=>z) (fun b hb=>?_) fun j0_ j1_ j2_ e=>e⟩;unfold ownB;refine O hb ?_;dsimp only;unfold rootAt;exact O (RSr m)<|O a1 rfl
   rcases setAts_get nda (q.len▸hna) a1 with⟨k,hk,ho⟩ | ⟨hj,a1⟩
   .obtain⟨l,hl,hy⟩:=q.at' k j hk;obtain⟨v,hv,sv⟩:=AT k sl l ho hl n;refine⟨l,v,hy,hv,sv.mono (fun j0_ j1_ j2_ e=>e) (fun j0_ z=>z) (fun b hb=>?_) fun j0_ j1_ j2_ e=>e⟩;unfold ownB;refine O hb ?_;dsimp only;unfold rootAt;exact O (RSa k j hk) rfl
   .obtain⟨l,v',hl,hv,q1⟩:=I.at' j sl a1 n;refine⟨l,v',hl,rdk j l v' (fun m=>hj<|rbA_mem m) hl hv,?_⟩;have key:∀a,ai a=some j→(∃o,s.heap.get? a=some o)→(∀(m':Nat)(s1:Slot),rs[m']?=some (.pl<|.var j)→ss[m']?=some s1→argSlot Y (.pl<|.var j)=some s1→False)→ownB ai ownN RS a=some j∧ ∀o,s.heap.get? a=some o→s'.heap.get? a=some o:=fun a oa' lv no=>by
     refine ex1 lv fun o ho=>?_;have hp:posOf RS j 0=none:=by cases qq:posOf RS j 0 with
      | none=>rfl
      | some m=>
       obtain⟨_,h2⟩:=posOf_get qq;rw[Nat.sub_zero]at h2;by_cases hm:m<as.length
       .have:=RSa m _ (List.getElem?_eq_getElem hm)
        rw[this]at h2;cases h2;exact absurd (List.getElem_mem hm) hj
       .obtain⟨m',rfl⟩:=Nat.exists_eq_add_of_le<|Nat.not_lt.mp hm;rw[RSr]at h2;obtain⟨s1,e1,h1⟩:=hget m' _ h2;exact(no m' s1 h2 e1 h1).elim
     have hC:ownC ai RS a=none:=by unfold ownC;exact O oa' hp
     have ona:ai a≠none:=by rw[oa'];exact fun n=>by exact nomatch n
     refine⟨?_,fun o e=>keepC a o e hC (I.oF a ona) (fun q=>by rw[q,I.oL]at oa';exact nos oa')<|odx a ona⟩;unfold ownB;refine O (nN a o ho hC)<|O oa' ?_;dsimp only;exact O hp rfl
    cases sl with
    | no=>exact absurd rfl n
    | fz d=>exact Rep.mono keepZ S.zm q1
    | ai d=>
     obtain⟨a,q1⟩:=q1;refine O q1.1 ?_;have k:=key a q1.2.1 q1.2.2.live fun m' s1 h2 e1 h1=>by
      have:s1 = .ai d:=by simp only[argSlot,a1]at h1;exact(Option.some.inj h1).symm
      subst this;exact absurd (a2 ndr m' _ h2 e1) (by intro q;exact ff q)
     exact⟨a,rfl,k.1,q1.2.2.mono keepZ S.zm k.2⟩
    | tab X=>
     obtain⟨a,q1⟩:=q1;refine O q1.1 ?_;have k:=key a q1.2.1 q1.2.2.live fun m' s1 h2 e1 h1=>by simp only[argSlot,a1]at h1;exact nos h1
     exact⟨a,rfl,k.1,q1.2.2.mono keepZ S.zm k.2⟩
 have nwB:∀a,s.heap.get? a=none→ownN a=none→ ¬y.wr (ownB ai ownN RS) a:=fun a e0 on wr=>by
  have f:=I.fresh e0;rcases wr with wr | wr | wr
  .rcases oBk a wr with q | ⟨_,q⟩
   .exact q on
   .exact f.1 (.inl q)
  .exact f.1 (.inr<|.inl wr)
  .exact f.1 (.inr<|.inr wr)
 refine⟨ownB ai ownN RS,Z',inv,⟨S.sh,⟨fun a o e nw nf=>?_,S.ext.live,fun a o f e=>S.ext.fram a o (.inl f) e⟩,S.zm,zn,oB,fun i l v hb hl hv=>rdk i l v hb hl hv⟩,?_⟩
 .refine keep a o e ?_ nf (fun q=>nw<|.inr<|.inl q) fun⟨x,o',hJ⟩=>?_
  .cases q:ai a with
   | none=>rfl
   | some i=>exact absurd (.inl (by refine O q ?_;exact fun n=>by exact nomatch n)) nw
  .obtain⟨_,_,_,_,i,z,hl⟩:=q.slf x o' a hJ;exact nw<|.inr<|.inr ⟨i,_,hl,rfl⟩
 .rcases R with⟨rv,v,e1,e2,R⟩ | ⟨nm,a,e1,e2,ag⟩
  .refine .inl ⟨rv,v,e1,e2,?_⟩;cases rv with
   | fz d=>exact R
   | ai d=>obtain⟨a,R⟩:=R;refine O R.1 ?_;exact⟨a,rfl,R.2.1,nwB a R.2.1 R.2.2.1,fun q=>R.2.2.2.1<|.inl q,R.2.2.2.2.1,R.2.2.2.2.2⟩
   | pl p=>exact R.elim
  .exact .inr ⟨nm,a,e1,e2,ag.mono fun b _ _ ⟨h1,h2,h3,h4⟩=>⟨h1,nwB b h1 h2,fun q=>h3<|.inl q,h4⟩⟩
end
end Mv
end
section
set_option backward.match.sparseCases false
namespace Mv
open PySem PyProof.Rows
variable [Hp]
inductive PostX{β:Type}(y:Lay)(bv:aw)(ai:Addr→Option Nat)(Z:Addr→Prop)(s:Shared)(ak:aA β×Fm)(e:Value)(s':Shared) :Prop
 | mk (nm:Str) (a:Addr) (own':Addr→Option Nat) (Z':Addr→Prop) :ak.1 = .error nm→e = .ref a→Inv y own' Z' s'.heap ak.2→Step y bv ai Z s own' Z' s'→ExcIs s'.heap (fun b=>s.heap.get? b=none∧ ¬y.wr own' b∧ ¬y.F b∧ ¬Z' b) a nm→PostX y bv ai Z s ak e s'
section
variable {y:Lay}{bv bv':aw}{ai own₁:Addr→Option Nat}{Z Z₁:Addr→Prop}{s s₁ s':Shared}{e:Value}
theorem PostX.elim{β:Type}{p:Prop}{r:β}{f:Fm}(x:PostX y bv ai Z s ((.ok r:aA β),f) e s') :p:=by obtain⟨_,_,_,_,q,_⟩:=x;exact erk q
theorem PostX.up{β γ:Type}{nm:Str}{f:Fm}(hb:∀i∈bv,i∈bv')(S:Step y bv' ai Z s own₁ Z₁ s₁)(x:PostX y bv own₁ Z₁ s₁ ((.error nm:aA β),f) e s') :PostX y bv' ai Z s ((.error nm:aA γ),f) e s':=by refine hidG fun G g=>?_;obtain⟨nm',a,own',Z',q,e1,I,S',ag⟩:=x;cases q;exact g<|⟨_,a,own',Z',rfl,e1,I,S.trans<|S'.sub hb,ag.mono fun b j0_ j1_ h=>⟨S.old b h.1,h.2⟩⟩
theorem PostX.sub{β:Type}{ak:aA β×Fm}(hb:∀i∈bv,i∈bv')(S:Step y bv' ai Z s own₁ Z₁ s₁)(x:PostX y bv own₁ Z₁ s₁ ak e s') :PostX y bv' ai Z s ak e s':=by obtain⟨nm,a,own',Z',q,e1,I,S',ag⟩:=x;exact⟨nm,a,own',Z',q,e1,I,S.trans<|S'.sub hb,ag.mono fun b j0_ j1_ h=>⟨S.old b h.1,h.2⟩⟩
end
structure Rn(A:Around)(c:Cfg)(n:Nat) :Prop where
 gd:Gd c.glob
 cs:CallSpec n c.call
 dep:A.depth+2*n+1≤999
 un:A.units+8*n+4≤4000
 hh:A.handled=none
section
variable {c:Cfg}
noncomputable def VO(m:Out Rv) :Prop:= ∀r fr',m=some (.ok r,fr')→ ∃d,rvV r=some d
namespace VO
variable {Y:Fm}
theorem no:VO none:=fun j0_ j1_ h=>nos h
theorem fz{d:D} :VO (some (.ok<|.fz d,Y)):=fun j0_ j1_ h=>by obtain⟨rfl,rfl⟩:=okp h;exact⟨_,rfl⟩
theorem ai{d:D} :VO (some (.ok<|.ai d,Y)):=fun j0_ j1_ h=>by obtain⟨rfl,rfl⟩:=okp h;exact⟨_,rfl⟩
theorem err{e:Str} :VO (some (.error e,Y)):=fun j0_ j1_ h=>by cases h
theorem bd{α:Type}{m:Out α}{k:α→Fm→Out Rv}(h:∀a Y,VO<|k a Y) :VO (bndK m k):=by
 rcases m with _ | ⟨_ | a,f⟩
 .exact no
 .exact err
 .exact h a f
theorem bdC{α:Type}{cl:aw}{m:Out α}{k:α→Fm→Out Rv}(h:∀a Y,VO<|k a Y) :VO (bndCK cl m k):=by
 rcases m with _ | ⟨_ | a,f⟩
 .exact no
 .exact err
 .exact h a f
theorem okv{m:Option Rv} :VO (okV Y m):=by
 rcases m with _ | ⟨_ | _ | _⟩
 .exact no
 .exact fz
 .exact ai
 .exact no
theorem okf{α:Type}{f:α→D}{m:Option α} :VO (okO Y<|m.map fun a=>Rv.fz<|f a):=by cases m with
 | none=>exact no
 | some a=>exact fz
theorem okl{α:Type}{f:α→D}{m:Option α} :VO (okO Y<|m.map fun a=>Rv.ai<|f a):=by cases m with
 | none=>exact no
 | some a=>exact ai
theorem it{p:Prop}[Decidable p]{a b:Out Rv}(h:VO a)(k:VO b) :VO (if p then a else b):=by
 by_cases q:p
 .exact O (if_pos q) h
 .exact O (if_neg q) k
theorem r{r:Rv}{d:D}(h:rvV r=some d) :VO (some (.ok r,Y)):=fun j0_ j1_ q=>by obtain⟨rfl,rfl⟩:=okp q;exact⟨d,h⟩
theorem sv{r:Rv}{g:D→Out Rv}(h:∀d,rvV r=some d→VO (g d)) :VO (Mv.mo (rvV r) g):=by cases q:rvV r with
 | none=>exact no
 | some d=>exact h d q
theorem mo{α:Type}{o:Option α}{F:α→Out Rv}(h:∀a,VO<|F a) :VO (Mv.mo o F):=by cases o with
 | none=>exact no
 | some a=>exact h a
end VO
theorem callM_vo{f:Nat}{as:aw}{rs:List Rv}{Y:Fm} :VO (callM c f as rs Y):=by exact .mo fun ss=>.it (.mo fun o=>.bd fun r Y=>.sv fun j0_ h=>.r h) .no
theorem evB_vo{j:Bool}(es:List Ex)(Y:Fm) :VO (evB c j es Y):=by induction es generalizing Y with
 | nil=>exact .no
 | cons e x ih=>refine .bd fun r Y=>.sv fun d hd=>?_;cases x with
  | nil=>exact .r hd
  | cons e' x=>exact .it (ih Y)<|.r hd
theorem ev_vo(x:Ex)(Y:Fm)(hx:∀p,x≠ .pl p) :VO (ev c x Y):=by cases x with
 | lit d=>exact .fz
 | gl k=>exact .mo fun j0_=>.fz
 | var i=>rw[ev_var];rcases Y[i]? with _ | ⟨_ | _ | _ | _ | _⟩ <;> first | exact .no | exact .fz
 | pl p=>exact absurd rfl<|hx p
 | tup es=>exact .bd fun j0_ j1_=>.okf
 | list es=>exact .bd fun j0_ j1_=>.okl
 | op2 o a b=>exact .bd fun x j0_=>.bd fun y Y=>.mo fun j0_=>.mo fun j0_=>.okv
 | neg a=>exact .bd fun x j0_=>.mo fun j0_=>.okf (f:=id)
 | not a=>exact .bd fun x Y=>.mo fun j0_=>.fz
 | cmp o a b=>exact .bd fun x j0_=>.bd fun y Y=>.mo fun j0_=>.mo fun j0_=>.okf
 | cmp2 o p a b e=>exact .bd fun x j0_=>.bd fun y Y=>.mo fun j0_=>.mo fun j0_=>.mo fun j0_=>.it (.bd fun z Y=>.mo fun j0_=>.okf) .fz
 | bo j es=>exact evB_vo es Y
 | ite t a b=>exact .bd fun x j0_=>.mo fun j0_=>.it (.bd fun j0_ j1_=>.sv fun j0_ h=>.r h)<|.bd fun j0_ j1_=>.sv fun j0_ h=>.r h
 | pop p=>exact .mo fun j0_=>.mo fun j0_=>.mo fun j0_=>.fz
 | idx a i=>exact .bd fun x j0_=>.bd fun y Y=>.mo fun j0_=>.mo fun j0_=>.okf (f:=id)
 | slc a l u=>exact .bd fun x j0_=>.bd fun y j0_=>.bd fun z Y=>.mo fun j0_=>.mo fun j0_=>.mo fun j0_=>.okv
 | call f args=>exact .bd fun j0_ j1_=>callM_vo
 | mcall f as args=>exact .bd fun j0_ j1_=>callM_vo
 | tin i e=>exact .bd fun r Y=>.mo fun j0_=>.mo fun j0_=>.it .fz .no
 | tget i e=>exact .bd fun r Y=>.mo fun j0_=>.mo fun j0_=>.it (.okf (f:=id)) .no
 | bi b args=>exact .bd fun rs Y=>.mo fun j0_=>.okv
 | comp elt t it src conds=>exact .bd fun rs Y=>.mo fun j0_=>.mo fun j0_=>.bdC fun j0_ j1_=>.ai
theorem ev_val{x:Ex}{Y fr':Fm}{r:Rv}(h:ev c x Y=some (.ok r,fr')) :(∃d,rvV r=some d)∨ ∃p,r = .pl p∧x = .pl p:=by
 by_cases hx:∃p,x = .pl p
 .obtain⟨p,rfl⟩:=hx;obtain⟨rfl,rfl⟩:=okp (ifx h).2;exact .inr ⟨p,rfl,rfl⟩
 .exact .inl (ev_vo x Y (fun p q=>hx ⟨p,q⟩) r fr' h)
theorem apart_of{x:Ex}{Y fr':Fm}{r:Rv}{bv:aw}(h:ev c x Y=some (.ok r,fr'))(ap:Apart x bv) :∀i∈plVars r,i∉bv:=by
 rcases ev_val h with⟨d,e⟩ | ⟨p,rfl,rfl⟩
 .refine O (plVars_of e) ?_;intro i hi;cases hi
 .intro i hi;refine ap i ?_;cases p <;> exact hi
end
section
variable {A:Around}{c:Cfg}{n:Nat}{ao:Env}{V:Sc}{y:Lay}
 {bv bv':aw} {ai own₁:Addr→Option Nat} {Z Z₁:Addr→Prop} {s s₁:Shared} {Y fr₁:Fm}
noncomputable def SE(A:Around)(c:Cfg)(y:Lay)(m:Sem Value)(x:Ex) :Prop:= ∀(ai:Addr→Option Nat)(Z:Addr→Prop)(s:Shared)(Y:Fm)(ak:aA Rv×Fm),ev c x Y=some ak→Inv y ai Z s.heap Y→
 wpAny (model prog w) A m (PostE y (bvE x) ai Z s ak) (PostX y (bvE x) ai Z s ak) s
inductive PostT(y:Lay)(bv:aw)(ai:Addr→Option Nat)(Z:Addr→Prop)(s:Shared)(ak:aA Rv×Fm)(b:Bool)(s':Shared) :Prop
 | mk (r:Rv) (d:D) (own':Addr→Option Nat) (Z':Addr→Prop) :ak.1 = .ok r→rvD ak.2 r=some d→b=tD d→Inv y own' Z' s'.heap ak.2→Step y bv ai Z s own' Z' s'→PostT y bv ai Z s ak b s'
noncomputable def ST(A:Around)(c:Cfg)(y:Lay)(m:Sem Bool)(x:Ex) :Prop:= ∀(ai:Addr→Option Nat)(Z:Addr→Prop)(s:Shared)(Y:Fm)(ak:aA Rv×Fm),ev c x Y=some ak→(∀r,ak.1 = .ok r→ ∃d,rvD ak.2 r=some d)→Inv y ai Z s.heap Y→
 wpAny (model prog w) A m (PostT y (bvE x) ai Z s ak) (PostX y (bvE x) ai Z s ak) s
theorem seqE{β:Type}{m:Sem Value}{mo:Out Rv}{k:Rv→Fm→Out β}{ak:aA β×Fm}{Q:Value→Shared→Prop}(hk:bndK mo k=some ak)(S:Step y bv' ai Z s own₁ Z₁ s₁)(hb:∀i∈bv,i∈bv')
  (H:∀o,mo=some o→wpAny (model prog w) A m (PostE y bv own₁ Z₁ s₁ o) (PostX y bv own₁ Z₁ s₁ o) s₁)
  (K:∀r fr₂ own₂ Z₂ s₂ v,mo=some (.ok r,fr₂)→k r fr₂=some ak→Inv y own₂ Z₂ s₂.heap fr₂→Step y bv own₁ Z₁ s₁ own₂ Z₂ s₂→Step y bv' ai Z s own₂ Z₂ s₂→RvAt y own₂ Z₂ s₁.heap s₂.heap r v→Q v s₂) :
  wpAny (model prog w) A m Q (PostX y bv' ai Z s ak) s₁:=by
 rcases bnd_some hk with⟨e,f,hm,rfl⟩ | ⟨r,f,hm,hk⟩
 .refine wpAny_mono (H _ hm) (fun v s' p=>?_) fun j0_ j1_ x=>x.up hb S;obtain⟨r,_,_,q,_⟩:=p;exact kre q
 .refine wpAny_mono (H _ hm) (fun v s' p=>?_) fun j0_ j1_ x=>x.elim;refine hidG fun G g=>?_;obtain⟨r',own',Z',q,I,S',R⟩:=p;obtain rfl:=oki q;exact g<|K r f own' Z' s' v hm hk I S' (S.trans<|S'.sub hb) R
theorem seqT{β:Type}{m:Sem Bool}{mo:Out Rv}{k:Rv→Fm→Out β}{ak:aA β×Fm}{Q:Bool→Shared→Prop}(hk:bndK mo k=some ak)(S:Step y bv' ai Z s own₁ Z₁ s₁)(hb:∀i∈bv,i∈bv')
  (hd:∀r fr₂,k r fr₂=some ak→ ∃d,rvD fr₂ r=some d)
  (H:∀o,mo=some o→(∀r,o.1 = .ok r→ ∃d,rvD o.2 r=some d)→wpAny (model prog w) A m (PostT y bv own₁ Z₁ s₁ o) (PostX y bv own₁ Z₁ s₁ o) s₁)
  (K:∀r d fr₂ own₂ Z₂ s₂,k r fr₂=some ak→rvD fr₂ r=some d→Inv y own₂ Z₂ s₂.heap fr₂→Step y bv own₁ Z₁ s₁ own₂ Z₂ s₂→Step y bv' ai Z s own₂ Z₂ s₂→Q (tD d) s₂) :
  wpAny (model prog w) A m Q (PostX y bv' ai Z s ak) s₁:=by
 refine hidG fun G g=>?_;rcases bnd_some hk with⟨e,f,hm,rfl⟩ | ⟨r,f,hm,hk⟩
 .refine g ?_;refine wpAny_mono (H _ hm fun r q=>by exact kre q) (fun v s' p=>?_) fun j0_ j1_ x=>x.up hb S;obtain⟨r,_,_,_,q,_⟩:=p;exact kre q
 .refine g ?_;refine wpAny_mono (H _ hm fun r' q=>by refine O (oki q).symm ?_;exact hd r f hk) (fun v s' p=>?_) fun j0_ j1_ x=>x.elim;obtain⟨r',d,own',Z',q,e,rfl,I,S'⟩:=p;obtain rfl:=oki q;exact K r d f own' Z' s' hk e I S'<|S.trans<|S'.sub hb
theorem toks_step{tk:Nat}(S:Step y bv ai Z s own₁ Z₁ s₁) :Step y bv ai Z s own₁ Z₁ {s₁ with toks:=tk}:=
 S.trans (Step.grow (tk:=tk) (fun j0_ j1_ e=>e))
theorem ST.of{e:Expr}{x:Ex}(H:SE A c y (eval e ao) x)(he:isTrue e ao (eval e ao)=(do let v ← eval e ao;standAt e.pos;holding [v] (truthy v))) :ST A c y (isTrue e ao<|eval e ao) x:=by intro ai Z s Y ak h hd I;refine isTrue_plain (wpAny_mono (H ai Z s Y ak h I) (fun v s' p=>?_) fun j0_ j1_ x=>x) he;obtain⟨r,own',Z',e,I',S,R⟩:=p;exact ex1 (hd r e) fun d hr=>(op_truth (R.dat I' hr) fun tk=>⟨r,d,own',Z',e,hr,rfl,I',toks_step S⟩)
theorem se_lit{k:Const}{kk:Nat}{pos:Pos}{d:D}(hk:ConstIs k d) :SE A c y (eval (.Constant k kk pos) ao) (.lit d):=by intro ai Z s Y ak h I;refine O (sos h).symm ?_;cases hk with
 | none=>exact wpAny_Constant_none<|.val I .refl .none
 | bool b=>exact wpAny_Constant_bool<|.val I .refl<|.bool b
 | int i=>exact wpAny_Constant_int<|.val (s':= {s with toks:=s.toks+1}) I (toks_step .refl)<|.int i _
 | str x hx hz=>exact wpAny_Constant_str<|.val (s':= {s with toks:=s.toks+1}) I (toks_step .refl)<|.str x _ hx hz
theorem se_gl{x:Str}{pos:Pos}{k:Nat}(R:Rn A c n)(en:EnvOk A V ao y)(hx:V.isG x)(hk:tb.gl[k]?=some x) :SE A c y (eval (.Name x pos) ao) (.gl k):=by intro ai Z s Y ak h I;refine ex1 (mo_s h) fun d z1=>?_;exact O (sos z1.2).symm<|ex1 (R.gd.gl k x d hk z1.1) fun v q=>(load_glob R.gd en I hx q.1<|.val I .refl<|q.2 _ _ I.base I.zb)
theorem var_s{s:Option Slot}{Y:Fm}{i:Nat}{o:aA Rv×Fm}(h:varE s Y i=some o) :(∃d,s=some (.fz d)∧o=(.ok<|.fz d,Y))∨ ∃d,s=some (.ai d)∧o=(.ok<|.fz d,Y.set i<|.fz d):=by
 rcases s with _ | _ | d | d | _
 .exact nos h
 .exact nos h
 .exact .inl ⟨d,rfl,(sos h).symm⟩
 .exact .inr ⟨d,rfl,(sos h).symm⟩
 .exact nos h
theorem live_s{Y:Fm}{i:Nat}(h:plLive Y (.var i)=true) :∃sl,Y[i]?=some sl∧sl≠ .no:=by
 have h:(match Y[i]? with
  | some sl=>sl.live
  | none=>false)=true:=h
 cases q:Y[i]? with
 | none=>rw[q]at h;exact tf h
 | some sl=>exact⟨sl,rfl,fun e=>by rw[q,e]at h;exact tf h⟩
theorem se_var{x:Str}{pos:Pos}{i:Nat}(en:EnvOk A V ao y)(hx:V.isV x i) :SE A c y (eval (.Name x pos) ao) (.var i):=by
 intro ai Z s Y ak h I;rcases var_s h with⟨d,hd,rfl⟩ | ⟨d,hd,rfl⟩
 .obtain⟨l,v,hl,hr,q⟩:=I.at' i _ hd (fun n=>Slot.noConfusion n);exact load_var en hx hl hr<|.val I .refl q
 .obtain⟨l,a,hl,hr,oa,q,I'⟩:=I.freeze hd;exact load_var en hx hl hr<|.val I' (.freeze oa) q
theorem se_pl{x:Str}{pos:Pos}{i:Nat}(en:EnvOk A V ao y)(hx:V.isV x i) :SE A c y (eval (.Name x pos) ao) (.pl<|.var i):=by intro ai Z s Y ak h I;have z:=ifx h;refine ex1 (live_s z.1) fun sl e=>?_;refine O (sos z.2).symm ?_;obtain⟨l,v,hl,hr,q⟩:=I.at' i _ e.1 e.2;exact load_var en hx hl hr ⟨_,ai,Z,rfl,I,.refl,l,hl,hr⟩
theorem se_avar{x a:Str}{p pos:Pos}{i:Nat}(R:Rn A c n)(en:EnvOk A V ao y)(hx:V.isA x a i) :SE A c y (eval (.Attribute (.Name x p) a pos) ao) (.var i):=by
 intro ai Z s Y ak h I;rcases var_s h with⟨d,hd,rfl⟩ | ⟨d,hd,rfl⟩
 .obtain⟨l,v,hl,hr,q⟩:=I.at' i _ hd (fun n=>Slot.noConfusion n);exact load_atr R.gd en I hx hl hr (Rep.hand q) fun tk=>.val (s':= {s with toks:=tk}) I (toks_step .refl) q
 .obtain⟨l,a,hl,hr,oa,q,I'⟩:=I.freeze hd;exact load_atr R.gd en I hx hl hr (Rep.hand q) fun tk=>.val (s':= {s with toks:=tk}) I' (toks_step<|.freeze oa) q
theorem se_apl{x a:Str}{p pos:Pos}{i:Nat}(R:Rn A c n)(en:EnvOk A V ao y)(hx:V.isA x a i) :SE A c y (eval (.Attribute (.Name x p) a pos) ao) (.pl<|.var i):=by intro ai Z s Y ak h I;have z:=ifx h;refine ex1 (live_s z.1) fun sl e=>?_;refine O (sos z.2).symm ?_;obtain⟨l,v,hl,hr,q⟩:=I.at' i _ e.1 e.2;exact load_atr R.gd en I hx hl hr (q.hand e.2) fun tk=>⟨_,ai,Z,rfl,I,toks_step .refl,l,hl,hr⟩
end
end Mv
end
section
set_option backward.match.sparseCases false
namespace Mv
open PySem PyProof.Rows
variable [Hp]
section
variable {A:Around}{c:Cfg}{n:Nat}{ao:Env}{V:Sc}{y:Lay}
 {bv bv':aw} {ai own₁:Addr→Option Nat} {Z Z₁:Addr→Prop} {s s₁:Shared} {Y fr₁:Fm}
theorem Rn.cl(R:Rn A c n) :A.units+66<cLine:=by have:=R.un;exact(Ln [A.5,n] (.w (.p 1<|.p 66 .x)<|.c 9900) [Gl (.p 4<|.a .x<|.m 8 .y)<|.c 4000] rfl this)
theorem inl_{a b:aw} :∀i∈a,i∈a++b:=fun i h=>List.mem_append_left _ h
theorem inr_{a b:aw} :∀i∈b,i∈a++b:=fun i h=>List.mem_append_right _ h
theorem se_op2{ea eb:Expr}{o:Op2}{xa xb:Ex}{pos:Pos}(Ha:SE A c y (eval ea ao) xa)(Hb:SE A c y (eval eb ao) xb)(ap:Apart xa (bvE xb)) :SE A c y (eval (.BinOp ea (opOf o) eb pos) ao) (.op2 o xa xb):=by intro ai Z s Y ak h I;refine wpAny_BinOp<|seqE (bv:=bvE xa) (bv':=bvE xa++bvE xb) h .refl inl_ (fun o e=>Ha ai Z s Y o e I) fun r fr₁ own₁ Z₁ s₁ v e₁ h I₁ S₁ S R=>?_;refine seqE (bv:=bvE xb) h S inr_ (fun o e=>Hb own₁ Z₁ s₁ fr₁ o e I₁) fun r' fr₂ own₂ Z₂ s₂ v' e₂ h I₂ S₂ S R'=>?_;refine ex1 (mo_s h) fun d z1=>ex1 (mo_s z1.2) fun e z2=>?_;obtain⟨q,hq,rfl⟩:=okV_eq z2.2;exact wpAny_mono (E:=PostX y (bvE xa++bvE xb) ai Z s (.ok q,fr₂)) (op_bin (by cases o <;> rfl) hq ((S₂.rv I₁ (apart_of e₁ ap) R).dat I₂ z1.1)<|R'.dat I₂ z2.1) (fun v s' p=>p.post I₂ S) fun j0_ j1_ x=>x
theorem se_neg{ea:Expr}{xa:Ex}{pos:Pos}(Ha:SE A c y (eval ea ao) xa) :SE A c y (eval (.UnaryOp .USub ea pos) ao) (.neg xa):=by
 intro ai Z s Y ak h I;refine UnaryOp_<|seqE (bv:=bvE xa) h .refl (fun j0_ h=>h) (fun o e=>Ha ai Z s Y o e I) fun r fr₁ own₁ Z₁ s₁ v e₁ h I₁ S₁ S R=>?_;refine ex1 (mo_s h) fun d z3=>?_;refine ex1 (okM z3.2) fun e hq=>?_;refine O hq.2 ?_;have hd':rvD fr₁ r=some d:=by cases r <;> first | exact z3.1 | exact nos z3.1
 exact wpAny_mono (op_neg hq.1<|R.dat I₁ hd') (fun v s' p=>p.post I₁ S) fun j0_ j1_ x=>x
theorem se_not{ea:Expr}{xa:Ex}{pos:Pos}(Ha:SE A c y (eval ea ao) xa) :SE A c y (eval (.UnaryOp .Not ea pos) ao) (.not xa):=by intro ai Z s Y ak h I;refine UnaryOp_<|seqE (bv:=bvE xa) h .refl (fun j0_ h=>h) (fun o e=>Ha ai Z s Y o e I) fun r fr₁ own₁ Z₁ s₁ v e₁ h I₁ S₁ S R=>?_;refine ex1 (mo_s h) fun d z4=>?_;exact O (sos z4.2).symm<|wpAny_mono (op_not<|R.dat I₁ z4.1) (fun v s' p=>p.post I₁ S) fun j0_ j1_ x=>x
theorem st_not{ea:Expr}{xa:Ex}{pos:Pos}{whole:Sem Value}(Ha:ST A c y (isTrue ea ao<|eval ea ao) xa) :ST A c y (isTrue (.UnaryOp .Not ea pos) ao whole) (.not xa):=by
 intro ai Z s Y ak h _ I;refine isTrue_not<|seqT (bv:=bvE xa) h .refl (fun j0_ h=>h) (fun r fr₂ h=>?_) (fun o e hd=>Ha ai Z s Y o e hd I) fun r d fr₁ own₁ Z₁ s₁ h hd I₁ S₁ S=>?_
 .refine ex1 (mo_s h) fun d z5=>?_;exact⟨_,z5.1⟩
 .rw[hd]at h;exact O (sos h).symm<|⟨_,_,own₁,Z₁,rfl,rfl,rfl,I₁,S⟩
theorem se_cmp{ea eb:Expr}{o:Cm}{xa xb:Ex}{pos:Pos}(R:Rn A c n)(Ha:SE A c y (eval ea ao) xa)(Hb:SE A c y (eval eb ao) xb)(ap:Apart xa (bvE xb))(hm:behindInMarks (cmOp o) eb=false) :SE A c y (eval (.Compare ea [cmOp o] [eb] pos) ao) (.cmp o xa xb):=by intro ai Z s Y ak h I;refine wpAny_Compare1 (seqE (bv:=bvE xa) (bv':=bvE xa++bvE xb) h .refl inl_ (fun o e=>Ha ai Z s Y o e I) fun r fr₁ own₁ Z₁ s₁ v e₁ h I₁ S₁ S R1=>?_) hm;refine seqE (bv:=bvE xb) h S inr_ (fun o e=>Hb own₁ Z₁ s₁ fr₁ o e I₁) fun r' fr₂ own₂ Z₂ s₂ v' e₂ h I₂ S₂ S R'=>?_;refine ex1 (mo_s h) fun d z6=>ex1 (mo_s z6.2) fun e z7=>?_;refine ex1 (okM z7.2) fun b hq=>?_;refine O hq.2 ?_;have hb:=hq.1;exact wpAny_mono (op_cmp hb ((S₂.rv I₁ (apart_of e₁ ap) R1).dat I₂ z6.1) (R'.dat I₂ z7.1) R.cl) (fun v s' p=>p.post I₂ S) fun j0_ j1_ x=>x
theorem Op.boolV{Z:Addr→Prop}{s s':Shared}{b:Bool}{v:Value}(p:Op Z s (.fz<|.bool b) v s') :v = .bool b∧ ∃h' tk,s'={s with heap:=h',toks:=tk}∧ ∀a o,s.heap.get? a=some o→h'.get? a=some o:=by obtain⟨h',tk,rfl,k,q⟩:=p;cases q with
 | old R=>exact⟨Dat.bool<|.inl R,h',tk,rfl,k⟩
 | new e e' R=>exact⟨Dat.bool<|.inl R,h',tk,rfl,k⟩
theorem st_cmp{ea eb:Expr}{o:Cm}{xa xb:Ex}{pos:Pos}{whole:Sem Value}(R:Rn A c n)(Ha:SE A c y (eval ea ao) xa)(Hb:SE A c y (eval eb ao) xb)(ap:Apart xa (bvE xb))(hm:behindInMarks (cmOp o) eb=false) :ST A c y (isTrue (.Compare ea [cmOp o] [eb] pos) ao whole) (.cmp o xa xb):=by intro ai Z s Y ak h _ I;refine wpAny_isTrue_Compare1 (seqE (bv:=bvE xa) (bv':=bvE xa++bvE xb) h .refl inl_ (fun o e=>Ha ai Z s Y o e I) fun r fr₁ own₁ Z₁ s₁ v e₁ h I₁ S₁ S R1=>?_) hm;refine seqE (bv:=bvE xb) h S inr_ (fun o e=>Hb own₁ Z₁ s₁ fr₁ o e I₁) fun r' fr₂ own₂ Z₂ s₂ v' e₂ h I₂ S₂ S R'=>?_;refine ex1 (mo_s h) fun d z8=>ex1 (mo_s z8.2) fun e z9=>?_;have h:=z9.2;refine ex1 (okM h) fun b hq=>?_;refine O hq.2 ?_;have hb:=hq.1;refine wpAny_mono (op_cmp hb ((S₂.rv I₁ (apart_of e₁ ap) R1).dat I₂ z8.1) (R'.dat I₂ z9.1) R.cl) (fun v s' p=>?_) fun j0_ j1_ x=>x;obtain⟨rfl,h',tk,rfl,k⟩:=p.boolV;exact wpAny_truthy_bool ⟨_,_,own₂,Z₂,rfl,rfl,rfl,I₂.grow k,S.trans<|.grow k⟩
theorem lastMarks2{o p:CmpOp}{b e:Expr}(h:behindInMarks p e=false) :lastMarks [o,p] [b,e]=false:=by simpa [lastMarks] using h
theorem rvV_D{Y:Fm}{r:Rv}{d:D}(h:rvV r=some d) :rvD Y r=some d:=by cases r <;> first | exact h | exact nos h
theorem rv_apart{r:Rv}{d:D}{bv:aw}(h:rvV r=some d) :∀i∈plVars r,i∉bv:=by refine O (plVars_of h) ?_;intro i hi;cases hi
theorem se_cmp2{ea eb ec:Expr}{o p:Cm}{xa xb xc:Ex}{pos:Pos}(R:Rn A c n)(Ha:SE A c y (eval ea ao) xa)(Hb:SE A c y (eval eb ao) xb)(Hc:SE A c y (eval ec ao) xc)(hm:behindInMarks (cmOp p) ec=false) :
  SE A c y (eval (.Compare ea [cmOp o,cmOp p] [eb,ec] pos) ao) (.cmp2 o p xa xb xc):=by
 intro ai Z s Y ak h I;refine Compare_chain (seqE (bv:=bvE xa) (bv':=bvE xa++bvE xb++bvE xc) h .refl (fun i h=>inl_ i<|inl_ i h) (fun o e=>Ha ai Z s Y o e I) fun r fr₁ own₁ Z₁ s₁ v e₁ h I₁ S₁ S R1=>?_)<|lastMarks2 hm;refine chain_link<|seqE (bv:=bvE xb) h S (fun i h=>inl_ i<|inr_ i h) (fun o e=>Hb own₁ Z₁ s₁ fr₁ o e I₁) fun r' fr₂ own₂ Z₂ s₂ v' e₂ h I₂ S₂ S R'=>?_;refine ex1 (mo_s h) fun d z10=>ex1 (mo_s z10.2) fun e z11=>?_;have h:=z11.2;refine ex1 (mo_s h) fun t z12=>?_;have h:=z12.2;refine wpAny_mono (op_cmp z12.1 ((S₂.rv I₁ (rv_apart z10.1) R1).dat I₂<|rvV_D z10.1) (R'.dat I₂<|rvV_D z11.1) R.cl) (fun v s' p=>?_) fun j0_ j1_ x=>x;obtain⟨rfl,h',tk,rfl,k⟩:=p.boolV;refine wpAny_truthy_bool ?_;cases t with
 | false=>rw[if_neg (by simp)]at h ⊢;exact O (sos h).symm<|.val (I₂.grow k) (S.trans<|.grow k)<|.bool _
 | true=>rw[if_pos rfl]at h ⊢;have S₃:Step y (bvE xb) own₂ Z₂ s₂ own₂ Z₂ {s₂ with heap:=h',toks:=tk}:=.grow k;refine chain_last<|seqE (bv:=bvE xc) h (S.trans<|.grow k) inr_ (fun o e=>Hc own₂ Z₂ _ fr₂ o e<|I₂.grow k) fun r3 fr₃ own₃ Z₃ s₃ v3 e₃ h I₃' S₃' S R3=>?_;refine ex1 (mo_s h) fun d3 z13=>?_;refine ex1 (okM z13.2) fun b hq=>?_;exact O hq.2<|wpAny_mono (op_cmp hq.1 ((S₃'.rv (I₂.grow k) (rv_apart z11.1)<|S₃.rv I₂ (rv_apart z11.1) R').dat I₃'<|rvV_D z11.1) (R3.dat I₃'<|rvV_D z13.1) R.cl) (fun v s' p=>p.post I₃' S) fun j0_ j1_ x=>x
theorem st_cmp2{ea eb ec:Expr}{o p:Cm}{xa xb xc:Ex}{pos:Pos}{whole:Sem Value}(R:Rn A c n)(Ha:SE A c y (eval ea ao) xa)(Hb:SE A c y (eval eb ao) xb)(Hc:SE A c y (eval ec ao) xc)(hm:behindInMarks (cmOp p) ec=false) :
  ST A c y (isTrue (.Compare ea [cmOp o,cmOp p] [eb,ec] pos) ao whole) (.cmp2 o p xa xb xc):=by
 intro ai Z s Y ak h _ I;refine isTrue_chain (seqE (bv:=bvE xa) (bv':=bvE xa++bvE xb++bvE xc) h .refl (fun i h=>inl_ i<|inl_ i h) (fun o e=>Ha ai Z s Y o e I) fun r fr₁ own₁ Z₁ s₁ v e₁ h I₁ S₁ S R1=>?_)<|lastMarks2 hm;refine test_link<|seqE (bv:=bvE xb) h S (fun i h=>inl_ i<|inr_ i h) (fun o e=>Hb own₁ Z₁ s₁ fr₁ o e I₁) fun r' fr₂ own₂ Z₂ s₂ v' e₂ h I₂ S₂ S R'=>?_;refine ex1 (mo_s h) fun d z14=>ex1 (mo_s z14.2) fun e z15=>?_;have h:=z15.2;refine ex1 (mo_s h) fun t z16=>?_;have h:=z16.2;refine wpAny_mono (op_cmp z16.1 ((S₂.rv I₁ (rv_apart z14.1) R1).dat I₂<|rvV_D z14.1) (R'.dat I₂<|rvV_D z15.1) R.cl) (fun v s' p=>?_) fun j0_ j1_ x=>x;obtain⟨rfl,h',tk,rfl,k⟩:=p.boolV;refine wpAny_truthy_bool ?_;cases t with
 | false=>rw[if_neg (by simp)]at h ⊢;exact O (sos h).symm<|⟨_,_,own₂,Z₂,rfl,rfl,rfl,I₂.grow k,S.trans<|.grow k⟩
 | true=>rw[if_pos rfl]at h ⊢;have S₃:Step y (bvE xb) own₂ Z₂ s₂ own₂ Z₂ {s₂ with heap:=h',toks:=tk}:=.grow k;refine test_last<|seqE (bv:=bvE xc) h (S.trans<|.grow k) inr_ (fun o e=>Hc own₂ Z₂ _ fr₂ o e<|I₂.grow k) fun r3 fr₃ own₃ Z₃ s₃ v3 e₃ h I₃' S₃' S R3=>?_;refine ex1 (mo_s h) fun d3 z17=>?_;have h:=z17.2;refine ex1 (okM h) fun b hq=>?_;refine O hq.2 ?_;refine wpAny_mono (op_cmp hq.1 ((S₃'.rv (I₂.grow k) (rv_apart z15.1)<|S₃.rv I₂ (rv_apart z15.1) R').dat I₃'<|rvV_D z15.1) (R3.dat I₃'<|rvV_D z17.1) R.cl) (fun v s' p=>?_) fun j0_ j1_ x=>x;obtain⟨rfl,h',tk,rfl,k⟩:=p.boolV;exact wpAny_truthy_bool ⟨_,_,own₃,Z₃,rfl,rfl,rfl,I₃'.grow k,S.trans<|.grow k⟩
theorem se_idx{ea eb:Expr}{xa xb:Ex}{pos:Pos}(Ha:SE A c y (eval ea ao) xa)(Hb:SE A c y (eval eb ao) xb)(ap:Apart xa (bvE xb))(hs:∀o i,subscripted eb false o i=operate [o,i] (getItem o i)) :SE A c y (eval (.Subscript ea eb pos) ao) (.idx xa xb):=by intro ai Z s Y ak h I;refine Subscript_<|seqE (bv:=bvE xa) (bv':=bvE xa++bvE xb) h .refl inl_ (fun o e=>Ha ai Z s Y o e I) fun r fr₁ own₁ Z₁ s₁ v e₁ h I₁ S₁ S R=>?_;refine seqE (bv:=bvE xb) h S inr_ (fun o e=>Hb own₁ Z₁ s₁ fr₁ o e I₁) fun r' fr₂ own₂ Z₂ s₂ v' e₂ h I₂ S₂ S R'=>?_;refine ex1 (mo_s h) fun d z18=>ex1 (mo_s z18.2) fun e z19=>?_;refine ex1 (okM z19.2) fun b hq=>?_;exact O hq.2<|ex2 (op_getItem (A:=A) (E:=PostX y (bvE xa++bvE xb) ai Z s ((.ok (.fz b) :aA Rv),fr₂)) hq.1 ((S₂.rv I₁ (apart_of e₁ ap) R).dat I₂ z18.1)<|R'.dat I₂<|rvV_D z19.1) fun T id Q=>(tail_any Q.1 Q.2.1 (wpAny_mono Q.2.2 (fun v s' p=>p.post I₂ S) fun j0_ j1_ x=>x)<|hs _ _)
theorem se_slc{ea:Expr}{lo hi:Option Expr}{xa xl xh:Ex}{p pos:Pos}(Ha:SE A c y (eval ea ao) xa)(Hl:SE A c y (evalPart lo ao) xl)(Hh:SE A c y (evalPart hi ao) xh)(ap:Apart xa (bvE xl++bvE xh)) :
  SE A c y (eval (.Subscript ea (.Slice lo hi none p) pos) ao) (.slc xa xl xh):=by
 intro ai Z s Y ak h I;refine Subscript_<|seqE (bv:=bvE xa) (bv':=bvE xa++bvE xl++bvE xh) h .refl (fun i h=>inl_ i<|inl_ i h) (fun o e=>Ha ai Z s Y o e I) fun r fr₁ own₁ Z₁ s₁ v e₁ h I₁ S₁ S R=>?_;refine wpAny_Slice<|seqE (bv:=bvE xl) h S (fun i h=>inl_ i<|inr_ i h) (fun o e=>Hl own₁ Z₁ s₁ fr₁ o e I₁) fun r2 fr₂ own₂ Z₂ s₂ v2 e₂ h I₂ S₂ S R'=>?_;refine seqE (bv:=bvE xh) h S inr_ (fun o e=>Hh own₂ Z₂ s₂ fr₂ o e I₂) fun r3 fr₃ own₃ Z₃ s₃ v3 e₃ h I₃ S₃ S R3=>?_;refine wpAny_of_eq (evalPart_none _) ?_;refine hidG fun G g=>?_;refine g ?_;refine ex1 (mo_s h) fun d z20=>ex1 (mo_s z20.2) fun l z21=>ex1 (mo_s z21.2) fun u z22=>?_;obtain⟨q,hq,rfl⟩:=okV_eq z22.2;have Rl:=S₃.rv I₂ (rv_apart z21.1) R';exact ex2 (op_slice (A:=A) (E:=PostX y (bvE xa++bvE xl++bvE xh) ai Z s ((.ok q:aA Rv),fr₃)) hq ((S₃.rv I₂ (fun i hi hb=>apart_of e₁ ap i hi<|inr_ i hb)<|S₂.rv I₁ (fun i hi hb=>apart_of e₁ ap i hi<|inl_ i hb) R).dat I₃ z20.1) (Rl.dat I₃<|rvV_D z21.1)<|R3.dat I₃<|rvV_D z22.1) fun T id Q=>(tail_any Q.1 Q.2.1 (wpAny_mono Q.2.2 (fun v s' p=>p.post I₃ S) fun j0_ j1_ x=>x) rfl)
theorem se_ite{et ea eb:Expr}{xt xa xb:Ex}{pos:Pos}(Ht:ST A c y (isTrue et ao<|eval et ao) xt)(Ha:SE A c y (eval ea ao) xa)(Hb:SE A c y (eval eb ao) xb) :SE A c y (eval (.IfExp et ea eb pos) ao) (.ite xt xa xb):=by
 intro ai Z s Y ak h I;refine IfExp_<|seqT (bv:=bvE xt) (bv':=bvE xt++bvE xa++bvE xb) h .refl (fun i h=>inl_ i<|inl_ i h) (fun r fr₂ h=>ex1 (mo_s h) fun j0_ z=>⟨_,rvV_D z.1⟩) (fun o e hd=>Ht ai Z s Y o e hd I) fun r d fr₁ own₁ Z₁ s₁ h hd I₁ S₁ S=>?_;refine ex1 (mo_s h) fun d' z=>?_;have hd2:=rvV_D (Y:=fr₁) z.1;rw[hd]at hd2;obtain rfl:=sos hd2;have h:=z.2;by_cases ht:tD d=true
 .rw[if_pos ht]at h ⊢;exact seqE (bv:=bvE xa) h S (fun i h=>inl_ i<|inr_ i h) (fun o e=>Ha own₁ Z₁ s₁ fr₁ o e I₁) fun r' fr₂ own₂ Z₂ s₂ v' e₂ h I₂ S₂ S' R'=>ex1 (mo_s h) fun j0_ z=>O (sos z.2).symm ⟨_,own₂,Z₂,rfl,I₂,S',R'.since S₁.old⟩
 .rw[if_neg ht]at h ⊢;exact seqE (bv:=bvE xb) h S inr_ (fun o e=>Hb own₁ Z₁ s₁ fr₁ o e I₁) fun r' fr₂ own₂ Z₂ s₂ v' e₂ h I₂ S₂ S' R'=>ex1 (mo_s h) fun j0_ z=>O (sos z.2).symm ⟨_,own₂,Z₂,rfl,I₂,S',R'.since S₁.old⟩
theorem st_ite{et ea eb:Expr}{xt xa xb:Ex}{pos:Pos}{whole:Sem Value}(Ht:ST A c y (isTrue et ao<|eval et ao) xt)(Ha:ST A c y (isTrue ea ao<|eval ea ao) xa)(Hb:ST A c y (isTrue eb ao<|eval eb ao) xb) :
  ST A c y (isTrue (.IfExp et ea eb pos) ao whole) (.ite xt xa xb):=by
 intro ai Z s Y ak h _ I;refine isTrue_IfExp<|seqT (bv:=bvE xt) (bv':=bvE xt++bvE xa++bvE xb) h .refl (fun i h=>inl_ i<|inl_ i h) (fun r fr₂ h=>ex1 (mo_s h) fun j0_ z=>⟨_,rvV_D z.1⟩) (fun o e hd=>Ht ai Z s Y o e hd I) fun r d fr₁ own₁ Z₁ s₁ h hd I₁ S₁ S=>?_;refine ex1 (mo_s h) fun d' z=>?_;have hd2:=rvV_D (Y:=fr₁) z.1;rw[hd]at hd2;obtain rfl:=sos hd2;have h:=z.2;by_cases ht:tD d=true
 .rw[if_pos ht]at h ⊢;exact seqT (bv:=bvE xa) h S (fun i h=>inl_ i<|inr_ i h) (fun r fr₂ h=>ex1 (mo_s h) fun j0_ z=>⟨_,rvV_D z.1⟩) (fun o e hd=>Ha own₁ Z₁ s₁ fr₁ o e hd I₁) fun r' d' fr₂ own₂ Z₂ s₂ h e I₂ S₂ S'=>ex1 (mo_s h) fun j0_ z=>O (sos z.2).symm ⟨_,_,own₂,Z₂,rfl,e,rfl,I₂,S'⟩
 .rw[if_neg ht]at h ⊢;exact seqT (bv:=bvE xb) h S inr_ (fun r fr₂ h=>ex1 (mo_s h) fun j0_ z=>⟨_,rvV_D z.1⟩) (fun o e hd=>Hb own₁ Z₁ s₁ fr₁ o e hd I₁) fun r' d' fr₂ own₂ Z₂ s₂ h e I₂ S₂ S'=>ex1 (mo_s h) fun j0_ z=>O (sos z.2).symm ⟨_,_,own₂,Z₂,rfl,e,rfl,I₂,S'⟩
end
end Mv
end
section
set_option backward.match.sparseCases false
namespace Mv
open PySem PyProof.Rows
variable [Hp]
noncomputable def F2(P:Expr→Ex→Prop) :az→List Ex→Prop
 | [],[]=>True
 | e::es,x::M=>P e x∧Apart x (bvEs M)∧F2 P es M
 | _,_=>False
section
variable {A:Around}{c:Cfg}{n:Nat}{ao:Env}{V:Sc}{y:Lay}
 {bv bv':aw} {ai own₁:Addr→Option Nat} {Z Z₁:Addr→Prop} {s s₁:Shared} {Y fr₁:Fm}
theorem PostE.toks{ak:aA Rv×Fm}{v:Value}{s':Shared}{tk:Nat}(p:PostE y bv ai Z s ak v s') :PostE y bv ai Z s ak v {s' with toks:=tk}:=by obtain⟨r,own',Z',e,I,S,R⟩:=p;exact⟨r,own',Z',e,I,toks_step S,R⟩
theorem PostE.from{ak:aA Rv×Fm}{v:Value}{s':Shared}(hb:∀i∈bv,i∈bv')(S:Step y bv' ai Z s own₁ Z₁ s₁)(p:PostE y bv own₁ Z₁ s₁ ak v s') :PostE y bv' ai Z s ak v s':=by obtain⟨r,own',Z',e,I,S',R⟩:=p;exact⟨r,own',Z',e,I,S.trans<|S'.sub hb,R.since S.old⟩
theorem PostT.from{ak:aA Rv×Fm}{v:Bool}{s':Shared}(hb:∀i∈bv,i∈bv')(S:Step y bv' ai Z s own₁ Z₁ s₁)(p:PostT y bv own₁ Z₁ s₁ ak v s') :PostT y bv' ai Z s ak v s':=by obtain⟨r,d,own',Z',e,e',ev,I,S'⟩:=p;exact⟨r,d,own',Z',e,e',ev,I,S.trans<|S'.sub hb⟩
theorem BoolOp_bo{j:Bool}{e₁ e₂:Expr}{rest:az}{pos:Pos}{E:Value→Shared→Prop}{s:Shared}{Q:Value→Shared→Prop}
  (h:wpAny (model prog w) A (eval e₁ ao) (fun v s₁=>wpAny (model prog w) A (truthy v) (fun b s₂=>if b=j then wpAny (model prog w) A (eval (.BoolOp (bOp j) (e₂::rest) pos) ao) Q E s₂ else Q v s₂) E s₁) E s) :
  wpAny (model prog w) A (eval (.BoolOp (bOp j) (e₁::e₂::rest) pos) ao) Q E s:=by
 cases j with
 | true=>exact BoolOp_and h
 | false=>exact BoolOp_or<|wpAny_mono h (fun v s₁ h=>wpAny_mono h (fun b s₂ h=>by cases b <;> exact h) fun j0_ j1_ x=>x) fun j0_ j1_ x=>x
theorem isTrue_bo{j:Bool}{x:Expr}{rest:az}{pos:Pos}{whole:Sem Value}{E:Value→Shared→Prop}{s:Shared}{Q:Bool→Shared→Prop}
  (h:wpAny (model prog w) A (isTrue x ao<|eval x ao) (fun b s'=>if b=j then wpAny (model prog w) A (isTrue (.BoolOp (bOp j) rest pos) ao whole) Q E s' else Q b s') E s) :
  wpAny (model prog w) A (isTrue (.BoolOp (bOp j) (x::rest) pos) ao whole) Q E s:=by
 cases j with
 | true=>exact isTrue_and<|wpAny_mono h (fun b s₂ h=>by cases b <;> exact h) fun j0_ j1_ x=>x
 | false=>exact isTrue_or<|wpAny_mono h (fun b s₂ h=>by cases b <;> exact h) fun j0_ j1_ x=>x
theorem isTrue_bo1{j b:Bool}{pos:Pos}{whole:Sem Value}{E:Value→Shared→Prop}{s:Shared}{Q:Bool→Shared→Prop}(h:Q b s) :if b=j then wpAny (model prog w) A (isTrue (.BoolOp (bOp j) [] pos) ao whole) Q E s else Q b s:=by cases j <;> cases b <;> first | exact h | exact isTrue_and_nil h | exact isTrue_or_nil h
set_option tactic.hygienic true in
theorem se_bo{j:Bool}{pos:Pos} :∀{es:az}{M:List Ex},F2 (fun e x=>SE A c y (eval e ao) x) es M→SE A c y (eval (.BoolOp (bOp j) es pos) ao) (.bo j M):=by intro x1 x2 F;induction x1 generalizing x2 with
 | nil=>cases x2 with
  | nil=>intro ai Z s Y ak h I;exact nos h
  | cons x4 x5=>exact F.elim
 | cons e x3 ih=>cases x3 with
  | nil=>cases x2 with
   | nil=>exact F.elim
   | cons x x6=>cases x6 with
    | nil=>intro ai Z s Y ak h I;rw[ev_bo,evB_one]at h;refine BoolOp_one<|seqE (bv:=bvE x) (bv':=bvE x++[]) h .refl inl_ (fun o e=>F.1 ai Z s Y o e I) fun r fr₁ own₁ Z₁ s₁ v e₁ h I₁ S₁ S R=>?_;exact ex1 (mo_s h) fun j0_ z=>O (sos z.2).symm<|⟨_,own₁,Z₁,rfl,I₁,S,R⟩
    | cons x7 x8=>exact F.2.2.elim
  | cons e' es=>cases x2 with
   | nil=>exact F.elim
   | cons x x9=>cases x9 with
    | nil=>exact F.2.2.elim
    | cons x' M=>
      intro ai Z s Y ak h I;rw[ev_bo,evB_cons]at h;refine BoolOp_bo<|seqE (bv:=bvE x) (bv':=bvE x++bvEs (x'::M)) h .refl inl_ (fun o e=>F.1 ai Z s Y o e I) fun r fr₁ own₁ Z₁ s₁ v e₁ h I₁ S₁ S R=>?_;refine ex1 (mo_s h) fun d z4=>?_;have h:=z4.2;refine op_truth (R.dat I₁<|rvV_D z4.1) fun tk=>?_;split at h
      .rename_i ht;exact O (if_pos ht)<|wpAny_mono (ih F.2.2 own₁ Z₁ {s₁ with toks:=tk} fr₁ ak h I₁) (fun v s' p=>p.from inr_<|toks_step (tk:=tk) S) fun e s' p=>p.sub inr_<|toks_step (tk:=tk) S
      .rename_i ht;exact O (if_neg ht)<|O (sos h).symm<|⟨_,own₁,Z₁,rfl,I₁,toks_step S,R⟩
set_option tactic.hygienic true in
theorem st_bo{j:Bool}{pos:Pos}{whole:Sem Value} :∀{es:az}{M:List Ex},F2 (fun e x=>ST A c y (isTrue e ao<|eval e ao) x) es M→ST A c y (isTrue (.BoolOp (bOp j) es pos) ao whole) (.bo j M):=by intro x1 x2 F;induction x1 generalizing x2 with
 | nil=>cases x2 with
  | nil=>intro ai Z s Y ak h _ I;exact nos h
  | cons x4 x5=>exact F.elim
 | cons e x3 ih=>cases x3 with
  | nil=>cases x2 with
   | nil=>exact F.elim
   | cons x x6=>cases x6 with
    | nil=>
      intro ai Z s Y ak h _ I;rw[ev_bo,evB_one]at h;refine isTrue_bo<|seqT (bv:=bvE x) (bv':=bvE x++[]) h .refl inl_ (fun r fr₂ h=>?_) (fun o e hd=>F.1 ai Z s Y o e hd I) fun r d fr₁ own₁ Z₁ s₁ h hd I₁ S₁ S=>?_
      .exact ex1 (mo_s h) fun j0_ z=>⟨_,rvV_D z.1⟩
      .exact ex1 (mo_s h) fun j0_ z=>O (sos z.2).symm<|isTrue_bo1 ⟨_,_,own₁,Z₁,rfl,hd,rfl,I₁,S⟩
    | cons x7 x8=>exact F.2.2.elim
  | cons e' es=>cases x2 with
   | nil=>exact F.elim
   | cons x x9=>cases x9 with
    | nil=>exact F.2.2.elim
    | cons x' M=>
      intro ai Z s Y ak h hd0 I;rw[ev_bo,evB_cons]at h;refine isTrue_bo<|seqT (bv:=bvE x) (bv':=bvE x++bvEs (x'::M)) h .refl inl_ (fun r fr₂ h=>?_) (fun o e hd=>F.1 ai Z s Y o e hd I) fun r d fr₁ own₁ Z₁ s₁ h hd I₁ S₁ S=>?_
      .exact ex1 (mo_s h) fun j0_ z=>⟨_,rvV_D z.1⟩
      .refine ex1 (mo_s h) fun d' z5=>?_;have h:=z5.2;have hd2:=rvV_D (Y:=fr₁) z5.1;rw[hd]at hd2;obtain rfl:=sos hd2;split at h
       .rename_i ht;exact O (if_pos ht)<|wpAny_mono (ih F.2.2 own₁ Z₁ s₁ fr₁ ak h hd0 I₁) (fun v s' p=>p.from inr_ S) fun e s' p=>p.sub inr_ S
       .rename_i ht;exact O (if_neg ht)<|O (sos h).symm<|⟨_,_,own₁,Z₁,rfl,hd,rfl,I₁,S⟩
inductive PostEs(y:Lay)(bv:aw)(ai:Addr→Option Nat)(Z:Addr→Prop)(s:Shared)(ak:aA (List Rv)×Fm)(vs:ay)(s':Shared) :Prop
 | mk (rs:List Rv) (own':Addr→Option Nat) (Z':Addr→Prop) :ak.1 = .ok rs→Inv y own' Z' s'.heap ak.2→Step y bv ai Z s own' Z' s'→RvsAt y own' Z' s.heap s'.heap rs vs→PostEs y bv ai Z s ak vs s'
theorem RvAt.frz{s':Shared}{own':Addr→Option Nat}{Z':Addr→Prop}{r:Rv}{v:Value}(I:Inv y own' Z' s'.heap Y)(S:Step y bv ai Z s own' Z' s')(q:RvAt y own' Z' s.heap s'.heap r v) :
  ∃Z'',Inv y own' Z'' s'.heap Y∧Step y bv ai Z s own' Z'' s'∧RvAt y own' Z'' s.heap s'.heap (frz r) v∧ ∀a,Z' a→Z'' a:=by
 cases r with
 | fz d=>exact⟨Z',I,S,q,fun j0_ z=>z⟩
 | ai d=>obtain⟨a,rfl,n0,nw,nf,nz,w⟩:=q;obtain⟨o,ho⟩:=w.live;exact⟨_,I.addZ nw nf ho,S.addZ n0,w.rep (fun j0_ z=>.inl z)<|.inr rfl,fun j0_ z=>.inl z⟩
 | pl p=>exact⟨Z',I,S,q,fun j0_ z=>z⟩
theorem plVars_frz(r:Rv) :plVars (frz r)=plVars r:=by cases r <;> rfl
theorem RvsAt.since{h₀ h₁ h:Heap}(k:∀a,h₁.get? a=none→h₀.get? a=none) :∀{rs:List Rv}{vs:ay},RvsAt y ai Z h₁ h rs vs→RvsAt y ai Z h₀ h rs vs:=by intro x1 x2 q;induction x1 generalizing x2 with
 | nil=>cases x2 with
  | nil=>exact trivial
  | cons x5 x6=>exact q.elim
 | cons x3 x4 ih=>cases x2 with
  | nil=>exact q.elim
  | cons x7 x8=>exact⟨q.1.since k,ih q.2⟩
theorem RvsAt.repAll{h₀ h:Heap} :∀{rs:List Rv}{vs:ay}{X:aB},RvsAt y ai Z h₀ h rs vs→rvVs rs=some X→RepAll h Z vs X:=by intro rs vs X q e;induction rs generalizing vs X with
 | nil=>cases vs with
  | nil=>exact O (sos e).symm .nil
  | cons x1 x2=>exact q.elim
 | cons r rs ih=>cases vs with
  | nil=>exact q.elim
  | cons v vs=>refine ex2 (rvVs_s e) fun d ds' z=>?_;refine O z.2.2<|.cons ?_<|ih q.2 z.2.1;have:=q.1;cases r with
    | fz d'=>exact O (sos z.1).symm this
    | ai d'=>exact O (sos z.1).symm this
    | pl p=>exact nos z.1
theorem rvD_frz{Y:Fm}{r:Rv}{d:D}(h:rvD Y r=some d) :rvD Y (frz r)=some d:=by cases r <;> exact h
theorem se_s{pos:Pos} :∀{es:az}{M:List Ex},F2 (fun e x=>CE V e x∧SE A c y (eval e ao) x) es M→ ∀(ai:Addr→Option Nat)(Z:Addr→Prop)(s:Shared)(Y:Fm)(ak:aA (List Rv)×Fm),evs c M Y=some ak→Inv y ai Z s.heap Y→
  wpAny (model prog w) A (spliced<|backTo pos<|starEach es ao) (PostEs y (bvEs M) ai Z s ak) (PostX y (bvEs M) ai Z s ak) s:=by
 intro es M F;induction es generalizing M with
 | nil=>cases M with
  | nil=>intro ai Z s Y ak h I;exact O (sos h).symm<|spliced_none ⟨[],ai,Z,rfl,I,.refl,trivial⟩
  | cons x1 x2=>exact F.elim
 | cons e es ih=>cases M with
  | nil=>exact F.elim
  | cons x M=>
    intro ai Z s Y ak h I;rw[evs_cons]at h;refine spliced_more (seqE (bv:=bvE x) (bv':=bvE x++bvEs M) h .refl inl_ (fun o e=>F.1.2 ai Z s Y o e I) fun r fr₁ own₁ Z₁ s₁ v e₁ h I₁ S₁ S R=>?_)<|F.1.1.star ao es;refine hidG fun G g=>?_;refine ex1 (R.frz I₁ S) fun Z₂ Q=>?_;have I₂:=Q.1;have S₂:=Q.2.1;have R₂:=Q.2.2.1;have ap:∀i∈plVars (frz r),i∉bvEs M:=by rw[plVars_frz];exact apart_of e₁ F.2.1
    rcases bnd_some h with⟨e',f,hm,rfl⟩ | ⟨rs,f,hm,h⟩
    .refine g ?_;refine wpAny_mono (ih F.2.2 own₁ Z₂ s₁ fr₁ _ hm I₂) (fun vs s' p=>?_) fun e s' p=>p.up inr_ S₂;obtain⟨_,_,_,q,_⟩:=p;exact kre q
    .refine g ?_;refine wpAny_mono (ih F.2.2 own₁ Z₂ s₁ fr₁ _ hm I₂) (fun vs s' p=>?_) fun e s' p=>p.elim;obtain⟨rs',own',Z',q,I',S',R'⟩:=p;obtain rfl:=oki q;exact O (sos h).symm<|⟨r::rs,own',Z',rfl,I',S₂.trans<|S'.sub inr_,S'.rv I₂ ap R₂,R'.since S₂.old⟩
theorem seqEs{β:Type}{m:Sem ay}{mo:Out (List Rv)}{k:List Rv→Fm→Out β}{ak:aA β×Fm}{Q:ay→Shared→Prop}(hk:bndK mo k=some ak)(S:Step y bv' ai Z s own₁ Z₁ s₁)(hb:∀i∈bv,i∈bv')
  (H:∀o,mo=some o→wpAny (model prog w) A m (PostEs y bv own₁ Z₁ s₁ o) (PostX y bv own₁ Z₁ s₁ o) s₁)
  (K:∀rs fr₂ own₂ Z₂ s₂ vs,mo=some (.ok rs,fr₂)→k rs fr₂=some ak→Inv y own₂ Z₂ s₂.heap fr₂→Step y bv own₁ Z₁ s₁ own₂ Z₂ s₂→Step y bv' ai Z s own₂ Z₂ s₂→RvsAt y own₂ Z₂ s₁.heap s₂.heap rs vs→Q vs s₂) :
  wpAny (model prog w) A m Q (PostX y bv' ai Z s ak) s₁:=by
 rcases bnd_some hk with⟨e,f,hm,rfl⟩ | ⟨r,f,hm,hk⟩
 .refine wpAny_mono (H _ hm) (fun v s' p=>?_) fun j0_ j1_ x=>x.up hb S;obtain⟨r,_,_,q,_⟩:=p;exact kre q
 .refine wpAny_mono (H _ hm) (fun v s' p=>?_) fun j0_ j1_ x=>x.elim;refine hidG fun G g=>?_;obtain⟨r',own',Z',q,I,S',R⟩:=p;obtain rfl:=oki q;exact g<|K r f own' Z' s' v hm hk I S' (S.trans<|S'.sub hb) R
theorem evs_len:∀{M:List Ex}{Y fr':Fm}{rs:List Rv},evs c M Y=some (.ok rs,fr')→rs.length=M.length:=by intro M x1 x2 x3 h;induction M generalizing x1 x2 x3 with
 | nil=>obtain⟨rfl,rfl⟩:=okp h;rfl
 | cons x M ih=>
  rw[evs_cons]at h;rcases bnd_some h with⟨_,_,_,q⟩ | ⟨a,f,_,q⟩
  .cases q
  .rcases bnd_some q with⟨_,_,_,q⟩ | ⟨a',f',h',q⟩
   .cases q
   .obtain⟨rfl,rfl⟩:=okp q;exact O List.length_cons<|O List.length_cons<|O (ih h') rfl
theorem se_tup{es:az}{M:List Ex}{k:Nat}{pos:Pos}(F:F2 (fun e x=>CE V e x∧SE A c y (eval e ao) x) es M)(hl:M.length≤1000) :SE A c y (eval (.Tuple es k pos) ao) (.tup M):=by
 intro ai Z s Y ak h I;refine Tuple_<|seqEs (bv:=bvEs M) h .refl (fun j0_ h=>h) (fun o e=>se_s F ai Z s Y o e I) fun rs fr₁ own₁ Z₁ s₁ vs e₁ h I₁ S₁ S R=>?_;refine ex1 (okM h) fun X hq=>?_;refine O hq.2 ?_;have hz:vs.length≤Sz:=by exact O R.length.symm<|O (evs_len e₁)<|Nat.le_trans hl (by decide)
 exact wpAny_newObj_type ((Op.newT (R.repAll hq.1) hz).post I₁ S) (by show vs.toArray.size≤sizeLine;refine O List.size_toArray<|O sz_line.symm ?_;exact hz)
theorem se_list{es:az}{M:List Ex}{pos:Pos}(F:F2 (fun e x=>CE V e x∧SE A c y (eval e ao) x) es M)(hl:M.length≤1000) :SE A c y (eval (.List es pos) ao) (.list M):=by
 intro ai Z s Y ak h I;refine List_<|seqEs (bv:=bvEs M) h .refl (fun j0_ h=>h) (fun o e=>se_s F ai Z s Y o e I) fun rs fr₁ own₁ Z₁ s₁ vs e₁ h I₁ S₁ S R=>?_;refine ex1 (okM h) fun X hq=>?_;refine O hq.2 ?_;have hz:vs.length≤Sz:=by exact O R.length.symm<|O (evs_len e₁)<|Nat.le_trans hl (by decide)
 exact wpAny_newObj_type ((Op.newL (R.repAll hq.1) hz).post I₁ S) (by show vs.toArray.size≤sizeLine;refine O List.size_toArray<|O sz_line.symm ?_;exact hz)
end
end Mv
end
section
set_option backward.match.sparseCases false
namespace Mv
open PySem PyProof.Rows
variable [Hp]
structure Lv(P fs:Addr→Prop)(h h':Heap) :Prop where
 keep:∀b o,h.get? b=some o→ ¬P b→ ¬fs b→h'.get? b=some o
 slot:∀b o,fs b→ ¬P b→h.get? b=some o→ ∃sl,h'.get? b=some {o with slots:=sl}
 live:∀b o,h.get? b=some o→ ∃o',h'.get? b=some o'
theorem Lv.trans{P fs:Addr→Prop}{h h' h'':Heap}(x:Lv P fs h h')(z:Lv P fs h' h'') :Lv P fs h h'' where
 keep:=fun b o e p f=>z.keep b o (x.keep b o e p f) p f
 slot:=fun b o f p e=>let ⟨_,e'⟩:=x.slot b o f p e;let ⟨sl,e''⟩:=z.slot b _ f p e';⟨sl,e''⟩
 live:=fun b o e=>let ⟨o',e'⟩:=x.live b o e;z.live b o' e'
theorem Lv.upd{P fs:Addr→Prop}{h:Heap}{T:Addr}{f:Obj→Obj}{o:Obj}(p:P T)(e:h.get? T=some o)(q:(f o).isFreed=false) :Lv P fs h (h.update T f) where
 keep:=fun b o e n j0_=>(Heap.get?_update_other h f fun q:T=b=>n<|q▸p).trans e
 slot:=fun b o j0_ n e=>⟨o.slots,(Heap.get?_update_other h f fun q:T=b=>n<|q▸p).trans e⟩
 live:=fun b o' e'=>by
  by_cases z:b=T
  .subst z;exact⟨_,Heap.get?_update_self f e q⟩
  .exact⟨o',(Heap.get?_update_other h f<|Ne.symm z).trans e'⟩
theorem Lv.push{P fs:Addr→Prop}{h:Heap}(o:Obj) :Lv P fs h (h.push o) where
 keep:=fun b o e j0_ j1_=>pK _ b o e
 slot:=fun b o j0_ j1_ e=>⟨o.slots,pK _ b o e⟩
 live:=fun b o e=>⟨o,pK _ b o e⟩
theorem Lv.slots{P fs:Addr→Prop}{h h':Heap}{S:List Addr}(x:Heap.SlotsOnly S h h')(k:∀b∈S,fs b) :Lv P fs h h' where
 keep:=fun b o e j0_ f=>(x.2.1 b fun q=>f<|k b q).trans e
 slot:=fun b o j0_ j1_ e=>x.2.2 b o e
 live:=fun b o e=>let ⟨_,e⟩:=x.2.2 b o e;⟨_,e⟩
theorem Lv.refl{P fs:Addr→Prop}{h:Heap} :Lv P fs h h:=⟨fun j0_ j1_ e j2_ j3_=>e,fun j0_ o j1_ j2_ e=>⟨o.slots,e⟩,fun j0_ o e=>⟨o,e⟩⟩
theorem dict_map(o:Obj)(f:Array Value→Array Value) :(Obj.mapFields f o).dict=o.dict:=by obtain⟨c,d,dt,sl⟩:=o;cases dt <;> rfl
noncomputable def ExcTr(h:Heap)(P:Addr→Prop)(a:Addr)(nm:Str) :Prop:=
 P a∧ ∃oe vs C m,h.get? a=some oe∧(oe.cls = .ref C∧oe.dict=none)∧oe.data = .fields vs∧B.Ns mainGlobals m∧m nm=some (.ref C)∧
  ∃T oT ts,vs[1]?=some (.ref T)∧T≠a∧h.get? T=some oT∧oT.data = .fields ts∧3<ts.size∧P T
theorem ExcTr.is{h:Heap}{P:Addr→Prop}{a:Addr}{nm:Str} :ExcTr h P a nm→ExcIs h P a nm:=by intro x;obtain⟨p,oe,vs,C,m,h1,h2,h3,h4,h5,h6⟩:=x;exact⟨p,oe,vs,C,m,h1,h2,h3,h4,h5,.inr h6⟩
section
variable {ah:Model}{A:Around}{E:Value→Shared→Prop}{s:Shared}{ao e0:Env}{outer:List Env}{L a:Addr}{nm:Str}{P:Addr→Prop}{Q:Unit→Shared→Prop}
theorem entry_exc{oe:Obj}{vs:Array Value}{C:Addr}{m:Str→Option Value}{head:Value}{hadNext:Bool}(hfr:A.frames=some (e0::outer))(hfe:e0.frame=ao.frame)(hl:s.heap.FunFrames B (e0::outer))(hf:ao.frame=some L)(he:s.heap.get? a=some oe)(hd:oe.data = .fields vs)(hsz:1<vs.size)
  (hc:oe.cls = .ref C∧oe.dict=none) (hn:B.Ns mainGlobals m) (hm:m nm=some (.ref C)) (pa:P a) (hP:∀b,s.heap.get? b=none→P b)
  (k:∀h',Lv P (fun b=>b∈(e0::outer).filterMap (·.frame)) s.heap h'→ExcTr h' P a nm→Q () {s with heap:=h'}) :
  wpAny ah A (do let fa ← frameOf ao;let pl ← entryPlaceOf L hadNext;let b ← EntryCells.newEntry head fa .none (rawInt L) .none pl;setField (.ref a) 1 b) Q E s:=by
 have ha:a∉(e0::outer).filterMap (·.frame):=fun q=>by obtain⟨_,o,ho,nr⟩:=hl.mem q;rw[he]at ho;obtain rfl:=sos ho;exact nr vs hd
 refine O (show frameOf ao=frameOf e0 from by unfold frameOf; exact O hfe rfl) ?_;refine wpAny_bind (wpAny_frameOf_fun hfr hl (hfe.trans hf) fun h₁ x₁=>?_);refine wpAny_bind (wpAny_entryPlaceOf fun pl hpl=>?_);unfold EntryCells.newEntry newFields;refine wpAny_bind (wpAny_newObj_type ?_ (hpl.sizeOk5 _ _ _ _ _));have e₁:=(x₁.2.1 a ha).trans he;generalize hT:({cls:=.type "traceback",dict:=none,data:=.fields ([head,.ref L,.none,rawInt L,.none] ++ (if pl.isEmpty then List.replicate 6 Value.none else pl)).toArray} :Obj)=oT;refine wpAny_setField (Heap.get?_push_of_some (h:=h₁) oT e₁) hd hsz ?_;have hTf:oT.isFreed=false:=by refine O hT.symm ?_; rfl
 obtain⟨ts,hts,hsz3⟩ :∃ts,oT.data = .fields ts∧3<ts.size:=⟨_,by exact O hT.symm rfl,by simp only[List.size_toArray,List.length_append,List.length_cons,List.length_nil];exact(Ln [(if pl.isEmpty=true then List.replicate (6:Nat) Value.none else pl).length] (.w (.p 1<|.c 3)<|.a (.p 1<|.p 1<|.p 1<|.p 1<|.p 1<|.c 0) .x) [] rfl)⟩
 have pT:P h₁.objs.size:=hP _ (by refine O x₁.1 ?_;exact hN0 _);exact k _ (((Lv.slots x₁ fun b q=>q).trans<|Lv.push oT).trans<|Lv.upd pa (Heap.get?_push_of_some (h:=h₁) oT e₁)<|Obj.isFreed_of_fields<|Obj.data_mapFields hd (·.setIfInBounds 1 (Value.ref h₁.objs.size)))
  ⟨pa,_,_,C,m,(Heap.get?_update_self (Obj.mapFields (·.setIfInBounds 1 (Value.ref h₁.objs.size))) (Heap.get?_push_of_some (h:=h₁) oT e₁)<|Obj.isFreed_of_fields<|Obj.data_mapFields hd (·.setIfInBounds 1 (Value.ref h₁.objs.size))),⟨(Obj.cls_mapFields _ _).trans hc.1,(dict_map _ _).trans hc.2⟩,(Obj.data_mapFields hd (·.setIfInBounds 1 (Value.ref h₁.objs.size))),hn,hm,h₁.objs.size,oT,ts,by simp[hsz],(Nat.ne_of_gt<|Heap.lt_size e₁),((Heap.get?_update_other (h₁.push oT) (Obj.mapFields (·.setIfInBounds 1 (Value.ref h₁.objs.size)))<|Ne.symm<|Nat.ne_of_gt<|Heap.lt_size e₁).trans<|Heap.get?_push_size h₁ hTf),hts,hsz3,pT⟩
theorem note_exc(hfr:A.frames=some (e0::outer))(hfe:e0.frame=ao.frame)(hl:s.heap.FunFrames B (e0::outer))(hf:ao.frame=some L)(ag:ExcIs s.heap P a nm)(hP:∀b,s.heap.get? b=none→P b)
  (k:∀h',Lv P (fun b=>b∈(e0::outer).filterMap (·.frame)) s.heap h'→ExcTr h' P a nm→Q () {s with heap:=h'}) :wpAny ah A (noteFrame (.ref a) ao) Q E s:=by
 obtain⟨pa,oe,vs,C,m,he,hc,hd,hn,hm,ht⟩:=ag;unfold noteFrame;simp only[hf];refine hidG fun G g=>?_;rcases ht with h1 | ⟨T,oT,ts,h1,ne,eT,hdT,sz,pT⟩
 .exact g (wpAny_bind<|wpAny_field he hd h1<|O (if_neg (by decide))<|entry_exc hfr hfe hl hf he hd (Array.getElem?_eq_some_iff.mp h1).1 hc hn hm pa hP k)
 .refine g ?_;refine wpAny_bind<|wpAny_field he hd h1 ?_;refine O (if_pos (show(Value.ref T != Value.none)=true from by simp)) ?_;refine wpAny_bind<|wpAny_field eT hdT (Array.getElem?_eq_getElem sz) ?_;by_cases q:(ts[3]==rawInt L)=true
  .exact O (if_pos q) (wpAny_pure<|k _ .refl ⟨pa,oe,vs,C,m,he,hc,hd,hn,hm,T,oT,ts,h1,ne,eT,hdT,sz,pT⟩)
  refine O (if_neg q) ?_;refine wpAny_bind<|wpAny_setField eT hdT sz ?_;have u:Lv P (fun b=>b∈(e0::outer).filterMap (·.frame)) s.heap (s.heap.update T<|Obj.mapFields (·.setIfInBounds 3 Value.none)):=Lv.upd pT eT<|Obj.isFreed_of_fields<|Obj.data_mapFields hdT (·.setIfInBounds 3 Value.none);have hl':(s.heap.update T<|Obj.mapFields (·.setIfInBounds 3 Value.none)).FunFrames B (e0::outer):=hl.of_keeps fun b o hb nr=>⟨o,(Heap.get?_update_other _ _ fun q=>by subst q;rw[eT]at hb;obtain rfl:=sos hb;exact nr ts hdT).trans hb,rfl⟩
  refine entry_exc (s:= {s with heap:=s.heap.update T (Obj.mapFields (·.setIfInBounds 3 Value.none))}) hfr hfe hl' hf ((Heap.get?_update_other _ _ ne).trans he) hd (Array.getElem?_eq_some_iff.mp h1).1 hc hn hm pa (fun b e=>hP b ?_) fun h' x y=>k h' (u.trans x) y;cases q:s.heap.get? b with
  | none=>rfl
  | some o=>obtain⟨o',e'⟩:=u.live b o q;rw[e]at e';exact nos e'
theorem fly_exc{fs:Addr→Prop}(fo:Option Addr)(ag:ExcTr s.heap P a nm)(k:∀h',Lv P fs s.heap h'→ExcTr h' P a nm→Q () {s with heap:=h'}) :wpAny ah A (setFlight (.ref a) fo) Q E s:=by refine hidG fun G g=>?_;obtain⟨pa,oe,vs,C,m,he,hc,hd,hn,hm,T,oT,ts,h1,ne,eT,hdT,sz,pT⟩:=ag;refine g ?_;unfold setFlight;refine wpAny_bind<|wpAny_field he hd h1 ?_;refine O (if_pos (show(Value.ref T != Value.none)=true from by simp)) ?_;generalize fo.elim Value.none (fun f=>rawInt f)=x;exact wpAny_setField eT hdT sz<|k _ (Lv.upd pT eT<|Obj.isFreed_of_fields<|Obj.data_mapFields hdT (·.setIfInBounds 3 x)) ⟨pa,oe,vs,C,m,(Heap.get?_update_other _ _ ne).trans he,hc,hd,hn,hm,T,_,_,h1,ne,Heap.get?_update_self _ eT<|Obj.isFreed_of_fields<|Obj.data_mapFields hdT (·.setIfInBounds 3 x),Obj.data_mapFields hdT _,by simpa using sz,pT⟩
theorem ExcTr.tb(ag:ExcTr s.heap P a nm){Q:Value→Shared→Prop}(k:∀T,Q (.ref T) s) :wpAny ah A (field (.ref a) 1) Q E s:=by refine hidG fun G g=>?_;obtain⟨_,oe,vs,_,_,he,_,hd,_,_,T,_,_,h1,_⟩:=ag;exact g<|wpAny_field he hd h1<|k T
theorem pass_exc{what:String}{α:Type}{Q:α→Shared→Prop}(ag:ExcTr s.heap P a nm)(k:∀h',Lv P (fun j0_=>False) s.heap h'→ExcTr h' P a nm→E (.ref a) {s with heap:=h'}) :wpAny ah A (PySem.passOn what (.ref a) ao:Sem α) Q E s:=by unfold PySem.passOn;exact wpAny_bind<|ag.tb fun T=>(O (if_neg (show ¬(Value.ref T==Value.none)=true from by simp))<|wpAny_bind<|fly_exc _ ag fun h' lv X'=>wpAny_throw<|k h' lv X')
theorem ExcTr.mono{h h':Heap}{P':Addr→Prop}(ag:ExcTr h P a nm)(k:∀b o vs,o.data = .fields vs→h.get? b=some o→h'.get? b=some o)(kp:∀b,P b→P' b) :ExcTr h' P' a nm:=by refine hidG fun G g=>?_;obtain⟨pa,oe,vs,C,m,he,hc,hd,hn,hm,T,oT,ts,h1,ne,eT,hdT,sz,pT⟩:=ag;exact g<|⟨kp _ pa,oe,vs,C,m,k _ _ _ hd he,hc,hd,hn,hm,T,oT,ts,h1,ne,k _ _ _ hdT eT,hdT,sz,kp _ pT⟩
theorem leave_exc(hfr:A.frames=some (e0::outer))(hfe:e0.frame=ao.frame)(hl:s.heap.FunFrames B (e0::outer))(hf:ao.frame=some L)(ag:ExcIs s.heap P a nm)(hP:∀b,s.heap.get? b=none→P b)
  (k:∀h',Lv P (fun b=>b∈(e0::outer).filterMap (·.frame)) s.heap h'→ExcTr h' P a nm→Q () {s with heap:=h'}) :
  wpAny ah A (noteFrame (.ref a) ao) (fun j0_ s'=>wpAny ah A (setFlight (.ref a) none) Q E s') E s:=
 note_exc hfr hfe hl hf ag hP fun h₁ x X₁=>fly_exc (s:= {s with heap:=h₁}) none X₁ fun h₂ z X₂=>k h₂ (x.trans z) X₂
theorem land_exc(ag:ExcTr s.heap P a nm)(k:∀h',Lv P (fun j0_=>False) s.heap h'→ExcTr h' P a nm→Q () {s with heap:=h'}) :wpAny ah A (setFlight (.ref a) none) Q E s:=fly_exc none ag k
end
section
variable {y:Lay}{bv bv':aw}{ai own':Addr→Option Nat}{Z Z':Addr→Prop}{s s':Shared}{h':Heap}{Y:Fm}{P fs:Addr→Prop}
theorem Ns_lv(I:Inv y ai Z s.heap Y)(x:Lv P fs s.heap h')(hp:∀b,P b→ ¬y.wr ai b∧ ¬y.F b∧ ¬Z b)(hf:∀b,fs b→y.F b∨b=y.L){i:Nat}{l:Loc}(hl:y.loc i=some l) :
  (∀v,rdL s.heap l v→rdL h' l v)∧(okL s.heap l→okL h' l):=by
 have np:¬P l.addr:=fun p=>(hp _ p).1<|.inr<|.inr ⟨i,l,hl,rfl⟩;by_cases q:fs l.addr
 .have hL:l.addr=y.L:=(hf _ q).elim (fun f=>absurd f<|I.wf.nf i l hl) id;cases l with
  | dict b x'=>exact⟨fun v ⟨m,hn,hm⟩=>⟨m,Ns_slots hn fun o=>x.slot b o q np,hm⟩,fun⟨m,hn⟩=>⟨m,Ns_slots hn fun o=>x.slot b o q np⟩⟩
  | cell b=>exact absurd hL<|I.wf.cl i b hl
  | attr b ns z=>exact absurd hL<|I.wf.al i b ns z hl
 .exact⟨fun v r=>r.keeps fun o e=>x.keep _ o e np q,fun r=>r.keeps fun o e=>x.keep _ o e np q⟩
theorem Inv.lv(I:Inv y ai Z s.heap Y)(x:Lv P fs s.heap h')(hp:∀b,P b→ ¬y.wr ai b∧ ¬y.F b∧ ¬Z b)(hf:∀b,fs b→y.F b∨b=y.L) :Inv y ai Z h' Y:=by
 have kz:∀a o,Z a→s.heap.get? a=some o→h'.get? a=some o:=fun a o z e=>x.keep a o e (fun p=>(hp a p).2.2 z) fun f=>(hf a f).elim (I.zF a z) fun q=>I.zL<|q▸z;have ko:∀a o,ai a≠none→s.heap.get? a=some o→h'.get? a=some o:=fun a o z e=>x.keep a o e (fun p=>(hp a p).1<|.inl z) fun f=>(hf a f).elim (I.oF a z) fun q=>z<|q▸I.oL;refine⟨I.wf,fun a o e=>kz a o (I.zb a o e)<|I.base a o e,I.zb,I.zo,I.zl,I.ol,I.zL,I.oL,I.zF,I.oF,fun a z=>?_,fun a z=>?_,fun a f=>?_,fun i l hl=>(Ns_lv I x hp hf hl).2<|I.ok i l hl,?_,fun p e=>(I.sf p e).mono kz (fun j0_ z=>z) fun l v hl r=>(Ns_lv I x hp hf hl).1 v r,fun i sl e n=>?_⟩
 .obtain⟨o,e⟩:=I.zlv a z;exact⟨o,kz a o z e⟩
 .obtain⟨o,e⟩:=I.olv a z;exact⟨o,ko a o z e⟩
 .obtain⟨o,Q⟩:=I.flv a f;have np:¬P a:=fun p=>(hp a p).2.1 f;by_cases q:fs a
  .exact ex1 (x.slot a o q np Q.1) fun sl e'=>(⟨_,e',Q.2⟩)
  .exact⟨o,x.keep a o Q.1 np q,Q.2⟩
 .obtain⟨m,hn⟩:=I.nsL;have np:¬P y.L:=fun p=>(hp _ p).1<|.inr<|.inl rfl;by_cases q:fs y.L
  .exact⟨m,Ns_slots hn fun o=>x.slot _ o q np⟩
  .exact⟨m,hn.at' fun o e=>x.keep _ o e np q⟩
 .obtain⟨l,v,hl,r,q⟩:=I.at' i sl e n;exact⟨l,v,hl,(Ns_lv I x hp hf hl).1 v r,q.mono kz (fun j0_ z=>z) (fun j0_ z=>z) fun a o z=>ko a o (by refine O z ?_;exact fun n=>by cases n)⟩
theorem Step.lv(S:Step y bv ai Z s own' Z' s')(I:Inv y own' Z' s'.heap Y)(x:Lv P fs s'.heap h')(hp:∀b,P b→s.heap.get? b=none∧ ¬y.wr own' b∧ ¬y.F b∧ ¬Z' b)(hf:∀b,fs b→y.F b∨b=y.L){tk:Nat} :Step y bv ai Z s own' Z' {s' with heap:=h',toks:=tk} where
 sh:=by refine ex2 S.sh fun h₁ tk₁ Q=>?_;subst Q;exact⟨_,_,rfl⟩
 ext:=⟨fun a o e nw nf=>x.keep a o (S.ext.keep a o e nw nf) (fun p=>by rw[(hp a p).1]at e;exact nos e) fun f=>(hf a f).elim nf fun q=>nw<|.inr<|.inl q,
  fun a o e=>let ⟨o',e'⟩:=S.ext.live a o e;x.live a o' e',
  fun a o f e=>by
   refine ex1 (S.ext.fram a o f e) fun sl e'=>?_;have np:¬P a:=fun p=>(hp a p).2.2.1 f;by_cases q:fs a
   .exact ex1 (x.slot a _ q np e') fun sl' e''=>(⟨sl',e''⟩)
   .exact⟨sl,x.keep a _ e' np q⟩⟩
 zm:=S.zm
 zn:=S.zn
 on:=S.on
 bind:=fun i l v n hl r=>(Ns_lv I x (fun b p=>(hp b p).2) hf hl).1 v<|S.bind i l v n hl r
theorem frames_fun{A:Around}(I:Inv y ai Z s.heap Y)(st:FrOk (fun a=>y.F a∨a=y.L) A) :∃l,A.frames=some l∧s.heap.FunFrames B l∧ ∀b∈l.filterMap (·.frame),y.F b∨b=y.L:=by
 obtain⟨l,hl,hk⟩:=st;refine⟨l,hl,?_,fun b hb=>?_⟩
 .clear hl;induction l with
  | nil=>trivial
  | cons e l ih=>
   obtain⟨h1,L,j⟩:=hk e<|.head _;have h2:=j.1;have h3:=j.2;refine⟨h1,?_,ih fun e he=>hk e<|.tail _ he⟩;have nz:¬Z L:=fun z=>h3.elim (I.zF L z) fun q=>I.zL<|q▸z;have nb:B.get? L=none:=by cases q:B.get? L with
    | none=>rfl
    | some o=>exact absurd (I.zb L o q) nz
   rcases h3 with h3 | h3
   .exact ex1 (I.flv L h3) fun o u=>(⟨L,o,h2,nb,u.1,u.2⟩)
   .refine ex4 I.nsL fun m o j0_ j1_ Q=>?_;have ho:=Q.1;have hd:=Q.2.1;exact⟨L,o,h2,nb,h3▸ho,fun vs q=>by have q:=hd▸q;cases q⟩
 .refine ex1 (List.mem_filterMap.mp hb) fun e J=>?_;have he:=J.1;have h1:=J.2;obtain⟨_,L,U⟩:=hk e he;rw[U.1]at h1;exact O (sos h1).symm U.2
inductive PostY{β:Type}(y:Lay)(bv:aw)(ai:Addr→Option Nat)(Z:Addr→Prop)(s:Shared)(ak:aA β×Fm)(e:Value)(s':Shared) :Prop
 | mk (nm:Str) (a:Addr) (own':Addr→Option Nat) (Z':Addr→Prop) :ak.1 = .error nm→e = .ref a→Inv y own' Z' s'.heap ak.2→Step y bv ai Z s own' Z' s'→ExcTr s'.heap (fun b=>s.heap.get? b=none∧ ¬y.wr own' b∧ ¬y.F b∧ ¬Z' b) a nm→PostY y bv ai Z s ak e s'
theorem PostX.note{A:Around}{V:Sc}{ao:Env}{β:Type}{e:Value}{ak:aA β×Fm}{R:Value→Shared→Prop}(x:PostX y bv ai Z s ak e s')(en:EnvOk A V ao y)(k:∀s'',PostY y bv ai Z s ak e s''→R e s'') :notedBy (model prog w) A ao R e s':=by obtain⟨nm,a,own',Z',q,rfl,I,S,ag⟩:=x;refine hidG fun G g=>?_;refine ex2 en.top fun e0 outer Q=>?_;obtain⟨l,hl',z⟩:=frames_fun I en.stk;rw[Q.1]at hl';obtain rfl:=sos hl';exact g<|note_exc Q.1 Q.2 z.1 en.frame ag (fun b e=>⟨S.old b e,I.fresh e⟩) fun h₂ lv X₂=>k _ ⟨nm,a,own',Z',q,rfl,I.lv lv (fun b p=>p.2) z.2,S.lv I lv (fun b p=>p) z.2,X₂⟩
theorem PostX.clr{β γ:Type}{e:Value}{nm:Str}{f:Fm}{l:aw}(x:PostX y bv ai Z s ((.error nm:aA β),f) e s') :PostX y bv ai Z s ((.error nm:aA γ),Mv.clr f l) e s':=by refine hidG fun G g=>?_;obtain⟨nm',a,own',Z',q,e1,I,S,ag⟩:=x;cases q;exact g<|⟨nm,a,own',Z',rfl,e1,I.clr l,S,ag⟩
theorem loop_exc{A:Around}{V:Sc}{ao:Env}{β:Type}{e:Value}{ak:aA β×Fm}{E:Value→Shared→Prop}(en:EnvOk A V ao y)(k:∀e s',PostX y bv ai Z s ak e s'→E e s')(x:PostX y bv ai Z s ak e s') :
  notedBy (model prog w) A ao (fun e s''=>cameBackBy (model prog w) A ao E e s'') e s':=
 x.note en fun s₂ p=>by obtain⟨nm,a,own',Z',q,rfl,I₂,S₂,X₂⟩:=p;exact wpAny_bind<|ExcTr.tb X₂ fun T=>(O (if_neg (show ¬(Value.ref T==Value.none)=true from by simp))<|fly_exc (fs:=fun j0_=>False) _ X₂ fun h₃ lv₃ X₃=>k _ _ ⟨nm,a,own',Z',q,rfl,I₂.lv lv₃ (fun b p=>p.2) fun j0_ f=>f.elim,S₂.lv I₂ lv₃ (fun b p=>p) fun j0_ f=>f.elim,X₃.is⟩)
end
end Mv
end
section
set_option backward.match.sparseCases false
namespace Mv
open PySem PyProof.Rows
variable [Hp]
section
variable {A:Around}{c:Cfg}{n:Nat}{ao:Env}{V:Sc}{y:Lay}
 {bv bv':aw} {ai own₁:Addr→Option Nat} {Z Z₁:Addr→Prop} {s s₁:Shared} {Y fr₁:Fm}
theorem args_fn{es:az}{M:List Ex}{pos:Pos}{f:Value}{Q:Args→Shared→Prop}{E:Value→Shared→Prop}(F:F2 (fun e x=>CE V e x∧SE A c y (eval e ao) x) es M)
  (h:wpAny (model prog w) A (spliced<|backTo pos<|starEach es ao) (fun vs s'=>Q ⟨vs,[]⟩ s') E s) :wpAny (model prog w) A (evalArgs f true (backTo pos<|starEach es ao) []) Q E s:=by
 cases es with
 | nil=>unfold evalArgs;refine wpAny_bind<|wpAny_mono h (fun vs s' h'=>wpAny_holding<|wpAny_bind<|wpAny_pure<|wpAny_bind<|wpAny_pure<|wpAny_pure h') fun j0_ j1_ x=>x
 | cons e es=>cases M with
  | nil=>exact F.elim
  | cons x M=>rw[F.1.1.star ao es]at h ⊢;exact Calls.evalArgs_plain h
theorem as_none:AsAt y [] none:=⟨rfl,fun k i h=>nos h,fun i l j0_ h=>by refine ex2 h fun j0_ j1_ h=>?_;exact nos h,fun j0_ j1_=>List.not_mem_nil,fun j0_ j1_ j2_ h=>nos h⟩
inductive CallO(A:Around)(y:Lay)(bv rb:aw)(ai:Addr→Option Nat)(Z:Addr→Prop)(s:Shared)(ak:aA Rv×Fm)(r:Result)(s':Shared) :Prop
 | ok (v:Value) :r = .ok (.ret v)→PostE y (rb++bv) ai Z s ak v s'→CallO A y bv rb ai Z s ak r s'
 | err (e:Value) :r = .error e→PostX y (rb++bv) ai Z s ak e s'→CallO A y bv rb ai Z s ak r s'
theorem bk_out{o:aA Rv}{f:Fm}{ak:aA Rv×Fm}(h:bndK (some (o,f)) (fun r Y=>mo (rvV r) fun j0_=>some (.ok r,Y))=some ak) :ak=(o,f):=by cases o with
 | error e=>exact(sos h).symm
 | ok r=>exact ex1 (mo_s h) fun j0_ h=>(sos h.2).symm
theorem call_any{f:Nat}{as:aw}{J:Ins}{d:DefRec}{fa:Addr}{rs:List Rv}{vs:ay}{ak:aA Rv×Fm}(R:Rn A c n)(en:EnvOk A V ao y)(hd:tb.fn[f]?=some d)(fa':FnAt f d J fa)(q:AsAt y as J)
  (h:callM c f as rs fr₁=some ak) (I₁:Inv y own₁ Z₁ s₁.heap fr₁) (S:Step y bv ai Z s own₁ Z₁ s₁) (Rs:RvsAt y own₁ Z₁ s.heap s₁.heap rs vs) :
  codeAny (model prog w) A (.call (.ref fa) ⟨selfV J++vs,[]⟩) (CallO A y bv (rbA (rbF f) as) ai Z s ak) s₁:=by
 refine ex1 (mo_s h) fun ss h1=>?_;have nd:=ifx h1.2;refine ex1 (mo_s nd.2) fun o hc=>?_;refine codeAny_mono (R.cs f _ o.1 o.2 hc.1 d hd J fa fa' A _ _ _ _ vs (Nat.le_of_succ_le R.dep) (Nat.le_trans (Nat.le_add_right _ 4) R.un) R.hh en.stk (call_gh I₁ _) (call_ins I₁ q _)<|call_slots I₁ Rs h1.1 nd.1 q) fun r s' P=>?_;refine O (bk_out hc.2) ?_;refine hidG fun G g=>?_;obtain⟨own',Z',I',S',⟨rv,v,q,rfl,R'⟩ | ⟨nm,ea,q,rfl,ag⟩⟩:=call_back I₁ Rs h1.1 nd.1 q P
 .exact g (.ok v rfl ⟨rv,own',Z',q,I',(S.sub inr_).trans<|S'.sub inl_,R'.since S.old⟩)
 .exact g (.err _ rfl ⟨nm,ea,own',Z',q,rfl,I',(S.sub inr_).trans<|S'.sub inl_,ag.mono fun b j0_ j1_ h=>⟨S.old b h.1,h.2⟩⟩)
theorem CallO.wp{Q:Value→Shared→Prop}{E:Value→Shared→Prop}{fa:Addr}{vs:ay}{rb:aw}{ak:aA Rv×Fm}(h:codeAny (model prog w) A (.call (.ref fa) ⟨vs,[]⟩) (CallO A y bv rb ai Z s ak) s₁)
  (k:∀v s',PostE y (rb++bv) ai Z s ak v s'→Q v s') (k':∀e s',PostX y (rb++bv) ai Z s ak e s'→E e s') :wpAny (model prog w) A (call (.ref fa) vs) Q E s₁:=
 wpAny_call (codeAny_mono h fun r s' P=>by cases P with
  | ok v e p=>subst e;exact k v s' p
  | err e e' p=>subst e';exact k' e s' p)
theorem FnAt.of(R:Rn A c n){f:Nat}{d:DefRec}(hf:tb.fn[f]?=some d∧f<tb.m0) :∃fa o,mg d.name=some (.ref fa)∧B.get? fa=some o∧(∃pm code doc,o.data = .func (Calls.docDef d.name d.params d.body d.scope pm code doc))∧FnAt f d none fa:=by refine hidG fun G g=>?_;obtain⟨a,o,pm,code,doc,hm,ho,hd,hcr⟩:=R.gd.fn f d hf.2 hf.1;exact g<|⟨a,o,hm,ho,⟨pm,code,doc,hd⟩,⟨fun j0_=>hf.2,fun j0_=>rfl⟩,(fun j0_ j1_ j2_ q=>nos q),o,d.name,pm,code,doc,ho,hd,hcr⟩
theorem rb_none{f:Nat}{as:aw}(h:f<tb.m0) :rbA (rbF f) as=[]:=by unfold rbF;refine O (if_pos h) ?_;rfl
theorem se_call{f:Nat}{d:DefRec}{es:az}{M:List Ex}{p pos:Pos}(R:Rn A c n)(en:EnvOk A V ao y)(hf:tb.fn[f]?=some d∧f<tb.m0)(hg:V.isG d.name)
  (F:F2 (fun e x=>CE V e x∧SE A c y (eval e ao) x) es M) :SE A c y (eval (.Call (.Name d.name p) es [] pos) ao) (.call f M):=by
 intro ai Z s Y ak h I;refine hidG fun G g=>?_;obtain⟨a,o,hm,ho,⟨pm,code,doc,hd⟩,fa⟩:=FnAt.of R hf;refine g ?_;refine Call_Name rfl<|load_glob R.gd en I hg hm ?_;refine Calls.callWith_function (o:=o) (fd:=Calls.docDef d.name d.params d.body d.scope pm code doc)<|args_fn F ?_;refine seqEs (bv:=bvEs M) h .refl (fun j0_ h=>h) (fun o e=>se_s F ai Z s Y o e I) fun rs fr₁ own₁ Z₁ s₁ vs e₁ h I₁ S₁ S Rs=>?_;refine⟨⟨I₁.base a o ho,hd⟩,?_⟩;have q:=call_any (bv:=bvEs M) R en hf.1 fa as_none h I₁ S Rs;rw[rb_none hf.2]at q;exact CallO.wp q (fun v s' p=>p) fun e s' p=>p
theorem Rn.big(R:Rn A c n)(I:Inv y ai Z s.heap Y) :3<s.heap.objs.size:=by exact ex3 R.gd.g fun o j0_ j1_ q=>(Heap.lt_size<|I.base _ _ q.1)
theorem op_bi1{b:Bi}{d:D}{r:Rv}{a:Value}{E:Value→Shared→Prop}(hb:b.one=true)(he:biD b [d]=some r)(ra:Dat s.heap Z a d) :wpAny (model prog w) A (call (biVal b) [a]) (Op Z s r) E s:=by cases b with
 | len=>rw[b_len]at he;cases hl:lenD d with
  | none=>rw[hl]at he;exact nos he
  | some n=>rw[hl]at he;exact O (sos he).symm<|op_len hl ra
 | isi t=>cases hb
 | abs=>
  cases d <;> first | exact nos he | skip
  exact O (sos he).symm<|op_abs ra
 | int=>
  cases d <;> first | exact nos he | skip
  exact O (sos he).symm<|op_intb ra
 | tuple=>cases d with
  | list M=>exact O (sos he).symm<|op_tupleL ra
  | tuple M=>exact O (sos he).symm<|op_tupleT ra
  | _=>exact nos he
 | str=>cases d with
  | int i=>cases i with
   | ofNat n=>exact op_str he ra
   | negSucc n=>exact nos he
  | _=>exact nos he
 | list=>
  cases d <;> first | exact nos he | skip
  exact O (sos he).symm<|op_listS ra
 | _=>cases hb
theorem biCall{b:Bi}{pos:Pos}{args:List (Bool×Sem Value)}{Q:Value→Shared→Prop}{E:Value→Shared→Prop}(hplain:args.any (·.1)=false)
  (h:wpAny (model prog w) A (evalArgs (biVal b) true args []) (fun a s₁=>wpAny (model prog w) A (call (biVal b) ([]++a.pos) a.kw) Q E s₁) E s) :
  wpAny (model prog w) A (callWith pos (biVal b) [] args []) Q E s:=by
 cases b with
 | len=>exact Calls.callWith_builtin (first:=[]) hplain h
 | isi t=>exact Calls.callWith_builtin (first:=[]) hplain h
 | abs=>exact Calls.callWith_builtin (first:=[]) hplain h
 | int=>exact PyProof.Rows.callWith_type (first:=[]) hplain h
 | tuple=>exact PyProof.Rows.callWith_type (first:=[]) hplain h
 | list=>exact PyProof.Rows.callWith_type (first:=[]) hplain h
 | str=>exact PyProof.Rows.callWith_type (first:=[]) hplain h
 | _=>exact Calls.callWith_builtin (first:=[]) hplain h
theorem se_bi1{b:Bi}{e:Expr}{x:Ex}{p pos:Pos}(R:Rn A c n)(en:EnvOk A V ao y)(hb:b.one=true)(hg:V.isG (biName b))(hc:CE V e x)(H:SE A c y (eval e ao) x) :
  SE A c y (eval (.Call (.Name (biName b) p) [e] [] pos) ao) (.bi b [x]):=by
 intro ai Z s Y ak h I;refine Call_Name (args:=[e]) rfl<|load_blt R.gd en I hg (biName_mem b) (biName_ne b) (boot_bi b) ?_;have F:F2 (fun e x=>CE V e x∧SE A c y (eval e ao) x) [e] [x]:=⟨⟨hc,H⟩,(fun i j0_ h=>by cases h),trivial⟩
 refine biCall (by refine O (hc.star ao []) ?_;rfl)<|args_fn F ?_;refine seqEs (bv:=bvEs [x]) h .refl (fun j0_ h=>h) (fun o e=>se_s F ai Z s Y o e I) fun rs fr₁ own₁ Z₁ s₁ vs e₁ h I₁ S₁ S Rs=>?_;obtain⟨r,rfl⟩:=List.length_eq_one_iff.mp (evs_len e₁:rs.length=1);obtain⟨v,Q⟩:=Rs.one;refine O Q.1 ?_;refine ex1 (mo_s h) fun X z=>ex1 (rvDs_1 z.1) fun d z'=>?_;obtain⟨q,hq,rfl⟩:=okV_eq<|z'.2▸z.2;exact wpAny_mono (op_bi1 hb hq<|Q.2.dat I₁<|rvD_frz z'.1) (fun v s' p=>p.post I₁ S) fun j0_ j1_ x=>x
theorem tyName_mem(t:Ty) :(tyName t:Str)∈biNames:=by cases t <;> (dsimp only[tyName];decide)
theorem tyName_ne(t:Ty) :(tyName t:Str)≠("__name__" :Str):=by cases t <;> (dsimp only [tyName]; decide)
theorem se_isi{t:Ty}{e:Expr}{x:Ex}{p p' pos:Pos}(R:Rn A c n)(en:EnvOk A V ao y)(hg:V.isG "isinstance")(hg':V.isG (tyName t))(hc:CE V e x)(H:SE A c y (eval e ao) x) :
  SE A c y (eval (.Call (.Name "isinstance" p) [e,.Name (tyName t) p'] [] pos) ao) (.bi (.isi t) [x]):=by
 intro ai Z s Y ak h I;refine Call_Name (args:=[e,.Name (tyName t) p']) rfl<|load_blt R.gd en I hg (biName_mem<|.isi t) (biName_ne<|.isi t) (boot_bi<|.isi t) ?_;refine biCall (b:=.isi t) (by rw[hc.star ao];rfl) ?_;rw[hc.star ao];refine Calls.evalArgs_plain<|Calls.spliced_cons ?_;refine seqE (bv:=bvE x) (bv':=bvE x++[]) (evs_1 h) .refl inl_ (fun o e=>H ai Z s Y o e I) fun r fr₁ own₁ Z₁ s₁ v e₁ h I₁ S₁ S R1=>?_;refine ex1 (mo_s h) fun X z=>ex1 (rvDs_1 z.1) fun d z'=>?_;obtain⟨q,hq,rfl⟩:=okV_eq<|z'.2▸z.2;exact O (sos hq).symm<|Calls.spliced_cons<|load_blt R.gd en I₁ hg' (tyName_mem t) (tyName_ne t) (boot_ty t)<|Calls.spliced_nil<|wpAny_mono (op_isi t<|R1.dat I₁ z'.1) (fun v s' p=>p.post I₁ S) fun j0_ j1_ x=>x
end
end Mv
end
section
set_option backward.match.sparseCases false
namespace Mv
open PySem PyProof.Rows
variable [Hp]
section
variable {A:Around}{c:Cfg}{n:Nat}{ao:Env}{V:Sc}{y:Lay}
 {bv bv':aw} {ai own₁:Addr→Option Nat} {Z Z₁:Addr→Prop} {s s₁:Shared} {Y fr₁:Fm}
theorem as_ins{p:Addr×Obj}{dx:Addr}(J:InsOk V ao y p dx)(wf:y.Wf)(hne:V.ats≠ []) :AsAt y V.as (some (p.1,p.2,dx)) where
 len:=J.len
 at':=fun k i h=>by obtain⟨a,Q⟩:=J.as k i h;exact⟨_,Option.map_eq_some_iff.mpr ⟨a,Q.1,rfl⟩,Q.2⟩
 full:=fun i l hl ⟨x,o,e⟩=>by have e:=(congrArg (·.2.2)<|Option.some.inj e).symm;refine ex1 (List.getElem?_of_mem<|J.full i l hl e) fun k hk=>?_;obtain⟨a,ha⟩:=J.zd i l hl e;exact⟨k,_,_,a,hk,ha⟩
 si:=fun q e m=>by refine ex1 (List.getElem?_of_mem m) fun k hk=>?_;obtain⟨a,Z⟩:=J.as k _ hk;have hl:=Z.2;have hl:=J.ls▸hl;cases hl
 slf:=fun x o d e=>by cases e;refine⟨J.slf,J.nc,J.dic,J.ne,?_⟩;cases q:V.ats with
  | nil=>exact absurd q hne
  | cons z zs=>obtain⟨a,_,hl⟩:=J.as 0 z.2 (by unfold Sc.as;refine O q ?_;rfl);exact⟨_,a,hl⟩
theorem star_all{pos:Pos} :∀{es:az}{M:List Ex},F2 (fun e x=>CE V e x∧SE A c y (eval e ao) x) es M→(backTo pos<|starEach es ao).all (fun x=>!x.1)=true:=by intro es;induction es with
 | nil=>intro M _;rfl
 | cons e es ih=>intro M F;cases M with
  | nil=>exact F.elim
  | cons x M=>exact O (F.1.1.star ao es)<|Bool.and_eq_true_iff.mpr ⟨rfl,ih F.2.2⟩
theorem Call_meth{o:Expr}{name:Str}{apos pos:Pos}{es:az}{M:List Ex}{Q:Value→Shared→Prop}{E:Value→Shared→Prop}(hbase:attributeBase o name ao (eval o ao)=eval o ao)(F:F2 (fun e x=>CE V e x∧SE A c y (eval e ao) x) es M)(hn:es.length≤28)(hline:(apos.endLine==pos.line)=true)
  (h:wpAny (model prog w) A (eval o ao) (fun ov s₁=> ∀pl,wpAny (model prog w) A (getMethod ov name pl) (fun fv s₂=>wpAny (model prog w) A (callWith pos fv.1 fv.2 (backTo pos<|starEach es ao) []) Q E s₂) E s₁) E s) :
  wpAny (model prog w) A (eval (.Call (.Attribute o name apos) es [] pos) ao) Q E s:=by
 rw[arm_eval_Call];refine O hbase ?_;refine wpAny_bind<|wpAny_mono h (fun ov s₁ h₁=>?_) fun j0_ j1_ e=>e;refine wpAny_bind<|wpAny_standAt ?_;have hform:methodCallForm (es.length+([] :List Keyword).length) (backTo pos<|starEach es ao) (backToKw pos<|keywordEach [] ao)=true:=by unfold methodCallForm;exact O (star_all F)<|decide_eq_true (show es.length<30 from Nat.lt_of_le_of_lt hn (by decide))
 have hpos:methodCallPos true o ao apos pos=pure pos:=by unfold methodCallPos;simp[hline]
 unfold methodCall;refine O hform ?_;refine wpAny_bind<|wpAny_holding<|wpAny_mono (h₁ _) (fun fv s₂ h₂=>?_) fun j0_ j1_ x=>x;exact wpAny_bind<|wpAny_of_eq hpos h₂
theorem meth_at{f:Nat}{d:DefRec}{pos:Pos}{p:Addr×Obj}{dx:Addr}{es:az}{M:List Ex}{β:Type}{ak:aA β×Fm}{ai:Addr→Option Nat}{Z:Addr→Prop}{s:Shared}{Y:Fm}{Q:Value→Shared→Prop}{E:Value→Shared→Prop}{pl:Sem Bool}{k:List Rv→Fm→Out β}(R:Rn A c n)(en:EnvOk A V ao y)(J:InsOk V ao y p dx)(hne:V.ats≠ [])(hf:tb.fn[f]?=some d∧tb.m0≤f∧kf f=V.k)
  (F:F2 (fun e x=>CE V e x∧SE A c y (eval e ao) x) es M) (I:Inv y ai Z s.heap Y) (h:bndK (evs c M Y) k=some ak) (kE:∀e s',PostX y (bvEs M) ai Z s ak e s'→E e s')
  (K:∀rs fr₁,k rs fr₁=some ak→ ∃o,callM c f V.as rs fr₁=some o∧(∀v s',PostE y (rbA (rbF f) V.as++bvEs M) ai Z s o v s'→Q v s')∧ ∀e s',PostX y (rbA (rbF f) V.as++bvEs M) ai Z s o e s'→E e s') :
  wpAny (model prog w) A (getMethod (.ref p.1) d.name pl) (fun fv s₂=>wpAny (model prog w) A (callWith pos fv.1 fv.2 (backTo pos<|starEach es ao) []) Q E s₂) E s:=by
 refine hidG fun G g1=>?_;refine ex2 J.cls fun cr C j=>?_;refine hidG fun G1 g2=>?_;refine ex3 (R.gd.pl _ cr j.1) fun C' N mN U=>?_;have hC':=U.1;have P:=U.2.1;have hme:=U.2.2.2;have hC':=j.2.1▸hC';cases hC';refine hidG fun G2 g3=>?_;obtain⟨hmem,hnn,z,hz⟩:=hme f d hf.2 hf.1;refine hidG fun G3 g4=>?_;obtain⟨fa,o,pm,cd,doc,h1,h2,h3,h4,h5⟩:=P.meths _ hmem;have q:=as_ins J I.wf hne;refine hidG fun G4 g5=>?_;obtain⟨_,_,_,_,i0,a0,hl0⟩:=q.slf _ _ _ rfl;refine hidG fun G5 g=>?_;refine ex1 (I.ok i0 _ hl0) fun mA q0=>?_;have hsh:mA d.name=none:=by cases e:mA d.name with
  | none=>rfl
  | some v=>exact absurd (q0.2 d.name (by refine O e ?_;exact fun q=>by cases q)) hnn
 refine hidG fun G6 g6=>?_;obtain ⟨nm,qn,bs,sn,sub,col,ddd,k0,k1,k2,k3,k5,hCo⟩:=(P.cls.keeps I.base).obj;refine g6 ?_;refine g ?_;refine g5 ?_;refine g4 ?_;refine g3 ?_;refine g2 ?_;refine g1 ?_;refine method_of hCo (P.cls.keeps I.base).ns (P.quiet _ (List.mem_append_left _ (by decide))) (P.quiet _ (List.mem_append_left _ (by decide))) h1 (I.base _ _ h2) h3 hz ⟨p.2,(I.sf p J.slf).ob,j.2.2,J.nc,.inr ⟨dx,J.dic,J.ne,q0.1⟩⟩ hsh ?_;refine Calls.callWith_function (o:=o) (fd:=methDef d.name (cr.name ++ "." ++ d.name) d.params d.body d.scope pm cd doc) (args_fn F ?_);refine wpAny_mono (seqEs (bv:=bvEs M) h .refl (fun j0_ h=>h) (fun o e=>se_s F ai Z _ Y o e I) fun rs fr₁ own₁ Z₁ s₁ vs e₁ h I₁ S₁ S Rs=>?_) (fun j0_ j1_ x=>x) fun e s' x=>kE e s' x;refine ex1 (K rs fr₁ h) fun o' u=>?_;refine⟨⟨I₁.base fa o h2,h4⟩,?_⟩;exact CallO.wp (call_any (bv:=bvEs M) R en hf.1 (⟨⟨fun q=>nos q.symm,fun q=>absurd hf.2.1 (Nat.not_le.mpr q)⟩,(fun x o dx e=>by cases e;exact hf.2.2.symm▸J.cls),o,_,pm,cd,doc,h2,h4,h5⟩) q u.1 I₁ S Rs) u.2.1 u.2.2
theorem se_mcall{f:Nat}{d:DefRec}{x:Str}{p ap pos:Pos}{es:az}{M:List Ex}(R:Rn A c n)(en:EnvOk A V ao y)(hf:tb.fn[f]?=some d∧tb.m0≤f∧kf f=V.k∧tb.rb[f-tb.m0]?=some [])(hx:x=V.sn∧(x == ("__debug__" :Str))=false∧V.ats≠ [])(hl:(ap.endLine == pos.line)=true)
  (F:F2 (fun e x=>CE V e x∧SE A c y (eval e ao) x) es M) (hn:es.length≤28) :SE A c y (eval (.Call (.Attribute (.Name x p) d.name ap) es [] pos) ao) (.mcall f V.as M):=by
 intro ai Z s Y ak h I;refine ex2 (en.ins hx.2.2) fun pp dx J=>?_;have hr:rbA (rbF f) V.as=[]:=by unfold rbF;refine O (if_neg<|Nat.not_lt.mpr hf.2.1)<|O hf.2.2.2 ?_;rfl
 exact Call_meth rfl F hn hl<|load_self J en I hx.1 hx.2.1 fun pl=>(meth_at R en J hx.2.2 ⟨hf.1,hf.2.1,hf.2.2.1⟩ F I h (fun e s' p=>p) fun rs fr₁ h=>⟨_,h,fun v s' p=>by rw[hr]at p;exact p,fun e s' p=>by rw[hr]at p;exact p⟩)
theorem slot_step{i:Nat}{sl:Slot}{h':Heap}(I:Inv y ai Z s.heap Y){l:Loc}{a:Addr}(hl:y.loc i=some l)(hr:rdL s.heap l (.ref a))(oa:ai a=some i)
  (hsb:Heap.SameBut a s.heap h') (lv:∃o,h'.get? a=some o) (W:SlotV h' Z (fun b=>ai b=some i) sl (.ref a)) :Inv y ai Z h' (Y.set i sl)∧Step y [] ai Z s ai Z {s with heap:=h'}:=by
 have on:ai a≠none:=by exact O oa (fun n=>by cases n)
 refine⟨I.setC hl hr oa (fun b o q e=>hsb.extBut b o q e) lv W,⟨⟨_,_,rfl⟩,⟨fun b o e nw nf=>hsb.extBut b o (fun q=>nw<|.inl<|q▸on) e,fun b o e=>?_,fun b o f e=>⟨o.slots,hsb.extBut b o (fun q=>I.oF a on<|q▸f) e⟩⟩,fun j0_ z=>z,fun j0_ z=>.inl z,fun j0_ j1_ e=>.inl e,fun j k v j0_ hk r=>r.keeps fun o e=>hsb.extBut _ o (fun q=>on<|q▸I.ol j k hk) e⟩⟩;by_cases q:b=a
 .subst q;exact lv
 .exact⟨o,hsb.extBut b o q e⟩
theorem own_step{i:Nat}{d':D}{h':Heap}(I:Inv y ai Z s.heap Y){l:Loc}{a:Addr}(hl:y.loc i=some l)(hr:rdL s.heap l (.ref a))(oa:ai a=some i)
  (hsb:Heap.SameBut a s.heap h') (W:OwnAt h' Z a d') :Inv y ai Z h' (Y.set i<|.ai d')∧Step y [] ai Z s ai Z {s with heap:=h'}:=slot_step I hl hr oa hsb W.live ⟨a,rfl,oa,W⟩
theorem plOwn_var{i:Nat}{d:D}(h:plOwn Y (.var i)=some d) :Y[i]?=some (.ai d):=by
 simp only[plOwn]at h;split at h
 .refine O (sos h).symm ?_;assumption
 .exact nos h
theorem pe_plain{o:Expr}{i:Nat}{nm:Str}(hx:PE V o i) :attributeBase o nm ao (eval o ao)=eval o ao:=by cases hx with
 | nm hx=>rfl
 | atr hx=>rfl
theorem erase_last{α:Type} :∀l:List α,l.eraseIdx (l.length - 1)=l.dropLast:=by intro l;induction l with
 | nil=>rfl
 | cons a l ih=>cases l with
  | nil=>rfl
  | cons b t=>exact congrArg (a :: ·) ih
theorem RepAll.last{h:Heap}{vs:ay}{X:aB}{d:D}(r:RepAll h Z vs X)(e:X.getLast? = some d) :∃v,vs[vs.length - 1]?=some v∧Rep h Z v d:=by rw[List.getLast?_eq_getElem?]at e;exact O r.length<|r.get e
theorem RepAll.dropLast{h:Heap}{vs:ay}{X:aB}(r:RepAll h Z vs X) :RepAll h Z vs.dropLast X.dropLast:=by exact O List.dropLast_eq_take<|O List.dropLast_eq_take<|O r.length<|r.take _
theorem pop_out{i:Nat}{ak:aA Rv×Fm}(h:ev c (.pop<|.var i) Y=some ak) :∃M d,Y[i]?=some (.ai<|.list M)∧M.getLast? = some d∧ak=(.ok<|.fz d,Y.set i<|.ai<|.list M.dropLast):=by refine ex1 (mo_s h) fun o z=>ex1 (mo_s z.2) fun q z1=>ex1 (mo_s z1.2) fun x z2=>?_;cases o with
 | list M=>have e:=z1.1;unfold popD at e;dsimp only at e;cases g:M.getLast? with
  | none=>rw[g]at e;exact nos e
  | some d=>rw[g]at e;obtain rfl:=sos e;obtain rfl:=sos z2.1;exact⟨M,d,plOwn_var z.1,g,(sos z2.2).symm⟩
 | _=>exact nos z1.1
theorem se_pop{o:Expr}{i:Nat}{ap pos:Pos}(R:Rn A c n)(en:EnvOk A V ao y)(hx:PE V o i)(hl:(ap.endLine == pos.line)=true) :SE A c y (eval (.Call (.Attribute o "pop" ap) [] [] pos) ao) (.pop (.var i)):=by intro ai Z s Y ak h I;refine hidG fun G g=>?_;refine ex2 (pop_out h) fun M d u=>?_;obtain rfl:=u.2.2;obtain⟨l,v,hly,hr,a,rfl,oa,W⟩:=I.at' i _ u.1 (by intro q;cases q);refine g ?_;refine wpAny_Call_method0_late (pe_plain hx) hl (load_pe R.gd en I hx hly hr rfl fun tk=>?_);refine hidG fun G1 g1=>?_;cases W with
 | @list vs m X hil hz RA=>
  refine g1 ?_;refine ex1 (RA.last u.2.1) fun v U=>?_;refine ⟨"list","list.pop",PySem.F.plainAttrs_list,PySem.F.slot_list_pop,PySem.F.type_list_pop,⟨_,hil,rfl⟩,(fun b e=>by cases e; exact ⟨_,hil,rfl⟩),?_⟩;refine PySem.P.pop_list (s:= {s with toks:=tk}) (y:=v) hil (by refine O List.size_toArray (O (List.getElem?_toArray) ?_); exact U.1) ?_ (by refine O List.size_toArray (O sz_line.symm ?_); exact hz);have up:=IsL.update hil fun M=>M.eraseIdxIfInBounds (vs.toArray.size-1);generalize hH:s.heap.update a (Obj.mapSeq fun M=>M.eraseIdxIfInBounds (vs.toArray.size-1))=H at up;have sb:=hH▸Heap.SameBut.update ..;have kz:∀b o,Z b→s.heap.get? b=some o→H.get? b=some o:=fun b o z e=>sb.extBut b o (fun q=>by have:=I.zo b z;rw[q]at this;have this:=oa▸this;cases this) e;have hv':vs.toArray.eraseIdxIfInBounds (vs.toArray.size-1)=vs.dropLast.toArray:=by refine O List.size_toArray ?_;unfold Array.eraseIdxIfInBounds;rw[dif_pos (show vs.length-1<vs.toArray.size from((List.getElem?_eq_some_iff.mp U.1).1)),List.eraseIdx_toArray,erase_last]
  rw[hv']at up;have W':OwnAt H Z a (.list M.dropLast):=.list up (Nat.le_trans (by refine O List.length_dropLast ?_;exact Nat.sub_le _ _) hz) (RA.mono kz fun j0_ z=>z).dropLast;refine⟨_,ai,Z,rfl,(own_step I hly hr oa sb W').1,?_,U.2.mono kz fun j0_ z=>z⟩;exact toks_step (tk:=tk) (own_step I hly hr oa sb W').2
end
end Mv
end
section
set_option backward.match.sparseCases false
namespace Mv
open PySem PyProof.Rows
variable [Hp]
section
variable {A:Around}{c:Cfg}{n:Nat}{ao:Env}{V:Sc}{y:Lay}
 {bv bv':aw} {ai own₁:Addr→Option Nat} {Z Z₁:Addr→Prop} {s s₁:Shared} {Y fr₁:Fm}
theorem tabAt_eq{o:Option Slot}{X:aC}(h:tabAt o=some X) :o=some (.tab X):=by rcases o with _ | ⟨_ | _ | _ | _⟩ <;> first | exact nos h | exact congrArg (fun x=>some<|Slot.tab x)<|sos h
inductive VarIs(Y:Fm)(ak:aA Rv×Fm) :Prop
 | mk (d:D) (fr₁:Fm) :ak=(.ok<|.fz d,fr₁)→(∀(i:Nat)(X:aC),fr₁[i]?=some (.tab X)→Y[i]?=some (.tab X))→VarIs Y ak
theorem var_is{j:Nat}{ak:aA Rv×Fm}(h:ev c (.var j) Y=some ak) :VarIs Y ak:=by
 rcases var_s h with⟨d,hd,q⟩ | ⟨d,hd,q⟩
 .exact⟨d,Y,q,fun j0_ j1_ e=>e⟩
 .exact⟨d,_,q,fun i X e=>by
   rcases set_get e with⟨_,q⟩ | ⟨_,e⟩
   .exact Slot.noConfusion q
   .exact e⟩
open Classical in
theorem room_in1(R:Rn A c n) :(dataKind prog w).room A.in1:=by
 have:=R.cl;show A.units+1+8<cLine
 exact Nat.lt_of_le_of_lt (Nat.add_le_add_left (by decide:9≤66) _) this
open Classical in
inductive TabIn(y:Lay)(ai:Addr→Option Nat)(Z:Addr→Prop)(h:Heap)(i:Nat)(X:aC) :Prop
 | mk (l:Loc) (t:Addr) (M:List (D×Addr×Value)) :y.loc i=some l→rdL h l (.ref t)→ai t=some i→(t==sysModules)=false→h.DictOfH (dataKind prog w) t M→M.length≤Sz→KT h Z M X→TabIn y ai Z h i X
theorem Inv.tabIn{i:Nat}{X:aC}{h:Heap}(I:Inv y ai Z h Y)(e:Y[i]?=some (.tab X)) :TabIn y ai Z h i X:=by obtain⟨l,v,hl,hr,t,rfl,ot,M,a,b,d,e⟩:=I.at' i _ e (by intro n;cases n);exact⟨l,t,M,hl,hr,ot,a,b,d,e⟩
theorem Rep.keyRef{h:Heap}{k:D}{v:Value}(o:keyOk k=true)(r:Rep h Z v k) :∃a,v = .ref a:=by cases k with
 | tuple M=>obtain⟨l,_,_,e,_⟩:=Dat.tuple<|.inl r;exact⟨l,e⟩
 | _=>cases o
open Classical in
theorem tin_at{i j:Nat}{x z a:Str}{p ap px:Pos}{ak:aA Rv×Fm}{Q:Value→Shared→Prop}{E:Value→Shared→Prop}(R:Rn A c n)(en:EnvOk A V ao y)(hx:V.isV x j)(ha:V.isA z a i)(h:ev c (.tin i<|.var j) Y=some ak)(I:Inv y ai Z s.heap Y)
  (K:∀b fr₁ own₁ Z₁ s₁,ak=(.ok<|.fz<|.bool b,fr₁)→Inv y own₁ Z₁ s₁.heap fr₁→Step y [] ai Z s own₁ Z₁ s₁→Q (.bool b) s₁) :
  wpAny (model prog w) A (eval (.Name x px) ao) (fun v s₁=>wpAny (model prog w) A (eval (.Attribute (.Name z p) a ap) ao) (fun v' s₂=>wpAny (model prog w) A (compareOp .NotIn v v') Q E s₂) E s₁) E s:=by
 rcases bnd_some h with⟨e,f,hm,_⟩ | ⟨r,fr₁,hm,h⟩
 .obtain⟨_,_,q,_⟩:=var_is hm;cases q
 obtain⟨k,f,q,hf⟩:=var_is hm;cases q;refine ex1 (mo_s h) fun k' z26=>ex1 (mo_s z26.2) fun X z27=>?_;obtain rfl:=sos z26.1;obtain⟨ko,rfl⟩:=ifs z27.2;refine wpAny_mono (se_var en hx ai Z s Y _ hm I) (fun v s₁ p=>?_) fun j0_ j1_ x=>x.elim;refine hidG fun G g=>?_;obtain⟨r',own₁,Z₁,q,I₁,S₁,R1⟩:=p;obtain rfl:=oki q;have R1:Rep s₁.heap Z₁ v k:=R1;obtain⟨b,rfl⟩:=R1.keyRef ko;obtain⟨l,t,M,hl,hr,ot,sy,dm,ln,kt⟩:=I₁.tabIn<|tabAt_eq z27.1;refine g ?_;refine load_atr R.gd en I₁ ha hl hr rfl fun tk=>?_;refine wpAny_notIn_heap (knd:=dataKind prog w) (s:= {s₁ with toks:=tk}) (room_in1 R) (Rep.isKey ko R1) sy dm ?_;have e:(!(atKey M k).isSome)=(tabGet k X).isNone:=by cases kt.get ko with
  | no a b=>rw[a,b];rfl
  | yes p d a b _=>rw[a,b];rfl
 rw[e];exact K _ _ own₁ Z₁ _ rfl I₁<|toks_step<|toks_step S₁
theorem se_tin{i j:Nat}{x z a:Str}{p ap px pos:Pos}(R:Rn A c n)(en:EnvOk A V ao y)(hx:V.isV x j)(ha:V.isA z a i) :SE A c y (eval (.Compare (.Name x px) [.NotIn] [.Attribute (.Name z p) a ap] pos) ao) (.tin i<|.var j):=
 fun ai Z s Y ak h I=>wpAny_Compare1 (tin_at R en hx ha h I fun b fr₁ own₁ Z₁ s₁ e I₁ S₁=>O e<|.val I₁ S₁<|.bool b) rfl
theorem st_tin{i j:Nat}{x z a:Str}{p ap px pos:Pos}{whole:Sem Value}(R:Rn A c n)(en:EnvOk A V ao y)(hx:V.isV x j)(ha:V.isA z a i) :ST A c y (isTrue (.Compare (.Name x px) [.NotIn] [.Attribute (.Name z p) a ap] pos) ao whole) (.tin i<|.var j):=
 fun ai Z s Y ak h j0_ I=>wpAny_isTrue_Compare1 (tin_at R en hx ha h I fun b fr₁ own₁ Z₁ s₁ e I₁ S₁=>wpAny_truthy_bool<|O e ⟨_,_,own₁,Z₁,rfl,rfl,rfl,I₁,S₁⟩) rfl
open Classical in
theorem se_tget{i j:Nat}{x z a:Str}{p ap px pos:Pos}(R:Rn A c n)(en:EnvOk A V ao y)(hx:V.isV x j)(ha:V.isA z a i) :SE A c y (eval (.Subscript (.Attribute (.Name z p) a ap) (.Name x px) pos) ao) (.tget i<|.var j):=by
 intro ai Z s Y ak h I;rcases bnd_some h with⟨e,f,hm,_⟩ | ⟨r,fr₁,hm,h⟩
 .obtain⟨_,_,q,_⟩:=var_is hm;cases q
 obtain⟨k,f,q,hf⟩:=var_is hm;cases q;refine ex1 (mo_s h) fun k' z28=>ex1 (mo_s z28.2) fun X z29=>?_;obtain rfl:=sos z28.1;have ko:=(ifx z29.2).1;refine ex1 (okM (ifx z29.2).2) fun d hq=>?_;refine O hq.2 ?_;have hg:=hq.1
 .refine hidG fun G g=>?_;obtain⟨l,t,M,hl,hr,_⟩:=I.tabIn<|hf i X<|tabAt_eq z29.1;refine g ?_;refine Subscript_<|load_atr R.gd en I ha hl hr rfl fun tk=>?_;refine wpAny_mono (se_var en hx ai Z {s with toks:=tk} Y _ hm I) (fun v s₁ p=>?_) fun j0_ j1_ x=>x.elim;refine hidG fun G g=>?_;obtain⟨r',own₁,Z₁,q,I₁,S₁,R1⟩:=p;obtain rfl:=oki q;have R1:Rep s₁.heap Z₁ v k:=R1;obtain⟨b,rfl⟩:=R1.keyRef ko;obtain⟨l',t',M,hl',hr',ot,sy,dm,ln,kt⟩:=I₁.tabIn<|tabAt_eq z29.1;have hl':=hl▸hl';obtain rfl:=sos hl';have e:=rdL.det (S₁.bind i l _ (fun h=>by cases h) hl hr) hr';cases e;refine g ?_;cases kt.get ko with
  | no a b=>rw[a]at hg;exact nos hg
  | yes u d' a b rp=>have a:=hg▸a;obtain rfl:=sos a;exact tail_any dm.typeIs slot_dict_getitem.lookup (wpAny_getItem_heap (knd:=dataKind prog w) (room_in1 R) (Rep.isKey ko R1) dm b<|.val (s':= {s₁ with toks:=_}) I₁ (toks_step<|(toks_step .refl).trans S₁) rp)<|CE.isPlain (CQ.var hx:CE V (.Name x px) (.var j)) _ _
end
end Mv
end
section
set_option backward.match.sparseCases false
namespace Mv
open PySem PyProof.Rows
variable [Hp]
section
variable {A:Around}{c:Cfg}{n:Nat}{ao:Env}{V:Sc}{y:Lay}
 {bv bv':aw} {ai own₁:Addr→Option Nat} {Z Z₁:Addr→Prop} {s s₁:Shared} {Y fr₁:Fm}
theorem set_rvD{i:Nat}{d:D}(h:Y[i]?=some (.ai d))(r:Rv) :rvD (Y.set i<|.fz d) r=rvD Y r:=by cases r with
 | fz d=>rfl
 | ai d=>rfl
 | pl p=>cases p with
  | var j=>
   simp only[rvD,plGet];by_cases q:i=j
   .subst q;exact O (List.getElem?_set_self<|(List.getElem?_eq_some_iff.mp h).1)<|O h rfl
   .exact O (List.getElem?_set_ne q) rfl
theorem simp_rvD{z:Ex}{r':Rv}(sx:Sx z)(h:ev c z Y=some (.ok r',fr₁))(r:Rv) :rvD fr₁ r=rvD Y r:=by cases sx with
 | lit _=>exact(okp h).2▸rfl
 | var _=>
  rcases var_s h with⟨d,hd,q⟩ | ⟨d,hd,q⟩
  .exact congrArg (rvD · r) (Prod.mk.inj q).2
  .exact O (Prod.mk.inj q).2 (set_rvD hd r)
 | pl _=>exact(okp (ifx h).2).2▸rfl
 | gl _=>exact ex1 (mo_s h) fun d q=>(okp q.2).2▸rfl
theorem oke{α:Type}{a:α}{e:Str}{f g:Fm}{p:Prop}(h:some ((Except.ok a:aA α),f)=some (.error e,g)) :p:=nomatch h
theorem simp_err{z:Ex}{nm:Str}(sx:Sx z)(h:ev c z Y=some (.error nm,fr₁)) :False:=by cases sx with
 | lit _=>exact oke h
 | var _=>rcases var_s h with⟨d,hd,q⟩ | ⟨d,hd,q⟩ <;> exact kre (Prod.mk.inj q).1
 | pl _=>exact oke (ifx h).2
 | gl _=>exact ex1 (mo_s h) fun d q=>oke q.2
structure Quiet(c:Cfg)(z:Ex) :Prop where
 rv:∀{Y fr₁:Fm}{r':Rv},ev c z Y=some (.ok r',fr₁)→ ∀r,rvD fr₁ r=rvD Y r
 ok:∀{Y fr₁:Fm}{nm:Str},ev c z Y=some (.error nm,fr₁)→False
theorem Sx.quiet{z:Ex}(h:Sx z) :Quiet c z:=⟨simp_rvD h,simp_err h⟩
theorem base_plain{a:Expr}{nm:Str}(h:baseB a=true) :attributeBase a nm ao (eval a ao)=eval a ao:=by cases a <;> first | rfl | cases h
noncomputable def MOp(A:Around)(nm:Str)(b:Bi) :Prop:= ∀(d e:D) (r:Rv),biD b [d,e]=some r→ ∃T id,PlainAttrs T∧PySem.Slot T nm id∧typeOf (.builtin id)=pure (.type "method_descriptor")∧(∀(Z:Addr→Prop) (s:Shared) (v:Value),Dat s.heap Z v d→s.TypeIs v T∧ ∀a,v=.ref a→ ∃ob,s.heap.get? a=some ob∧ob.dict=none)∧
   ∀(Z:Addr→Prop)(s:Shared)(v v':Value)(E:Value→Shared→Prop),Dat s.heap Z v d→Dat s.heap Z v' e→wpAny (model prog w) A (call (.builtin id) [v,v']) (Op Z s r) E s
theorem se_m1{a k:Expr}{x z:Ex}{nm:Str}{apos pos:Pos}{b:Bi}(ha:baseB a=true)(hk:Quiet c z)(hl:(apos.endLine==pos.line)=true)
  (F:F2 (fun e x=>CE V e x∧SE A c y (eval e ao) x) [a,k] [x,z]) (op:MOp A nm b) :
  SE A c y (eval (.Call (.Attribute a nm apos) [k] [] pos) ao) (.bi b [x,z]):=by
 intro ai Z s Y ak h I;refine wpAny_Call_method1_late (base_plain ha) hl (by refine O (F.2.2.1.1.star ao []) ?_;rfl) ?_;refine seqE (bv:=bvE x) (bv':=bvE x++(bvE z++[])) (evs_2 h) .refl inl_ (fun o e=>F.1.2 ai Z s Y o e I) fun r fr₁ own₁ Z₁ s₁ v e₁ h I₁ S₁ S R1=>?_;rcases bnd_some h with⟨e,f,hm,_⟩ | ⟨r',fr₂,hm,h2⟩
 .exact(hk.ok hm).elim
 .refine ex1 (mo_s h2) fun X u=>ex2 (rvDs_2 u.1) fun d e u'=>?_;obtain⟨q,hq,rfl⟩:=okV_eq<|u'.2.2▸u.2;refine ex2 (op d e q hq) fun T id Q=>?_;have hd:=(hk.rv hm r).symm.trans u'.1;refine⟨T,id,Q.1,Q.2.1,Q.2.2.1,(Q.2.2.2.1 Z₁ s₁ v<|R1.dat I₁ hd).1,(Q.2.2.2.1 Z₁ s₁ v<|R1.dat I₁ hd).2,Calls.callWith_builtin (first:=[v]) rfl<|Calls.evalArgs_plain<|Calls.spliced_cons ?_⟩;refine seqE (bv:=bvE z) h S (fun i h=>inr_ i<|inl_ i h) (fun o e=>F.2.2.1.2 own₁ Z₁ s₁ fr₁ o e I₁) fun r'' fr₃ own₂ Z₂ s₂ v' e₂ h3 I₂ S₂ S' R'=>?_;rw[hm]at e₂;have w:=okp e₂;obtain rfl:=w.1;obtain rfl:=w.2;exact Calls.spliced_nil<|wpAny_mono (Q.2.2.2.2 Z₂ s₂ v v' _ ((S₂.rv I₁ (apart_of e₁ (fun i hi hj=>F.2.1 i hi<|inl_ i hj)) R1).dat I₂ u'.1)<|R'.dat I₂ u'.2.1) (fun v s' p=>p.post I₂ S') fun j0_ j1_ x=>x
theorem mop_count:MOp A "count" .count:=by
 intro d e r h;cases d <;> first | exact nos h | skip
 cases e <;> first | exact nos h | skip
 refine ex1 (Option.map_eq_some_iff.mp h) fun bs q=>?_;refine O q.2.symm ?_;have hb:=q.1;refine ⟨"list","list.count",PySem.F.plainAttrs_list,PySem.F.slot_list_count,PySem.F.type_list_count,fun Z s v r=>?_,fun Z s v v' E r r'=>op_count hb r r'⟩;obtain ⟨l,vs,n,rfl,hl,hn,R⟩:=r.list;exact ⟨⟨_,hl,rfl⟩,fun a e=>by cases e; exact ⟨_,hl,rfl⟩⟩
theorem se_dict0{pos:Pos}(R:Rn A c n) :SE A c y (eval (.Dict [] [] pos) ao) (.bi .dict0 []):=by intro ai Z s Y ak h I;have h:okV Y (some<|.ai<|.dict [])=some ak:=h;obtain⟨q,hq,rfl⟩:=okV_eq h;refine O (sos hq).symm ?_;refine wpAny_Dict_empty ?_;refine ex3 R.gd.g fun o j0_ j1_ Q=>?_;have hs:=Heap.lt_size<|I.base _ _ Q.1;refine Op.post I .refl ⟨_,s.toks,rfl,pK _,.ai (hN0 _)<|.dict (kvs:=[]) ⟨?_,.new _⟩ (Nat.zero_le _) .nil⟩;rw[beq_eq_false_iff_ne];intro e;rw[e]at hs;exact absurd hs (by decide)
theorem se_dzip{a b:Expr}{x z:Ex}{p p' pos pos':Pos}(R:Rn A c n)(en:EnvOk A V ao y)(hg:V.isG "dict")(hg':V.isG "zip")(F:F2 (fun e x=>CE V e x∧SE A c y (eval e ao) x) [a,b] [x,z]) :
  SE A c y (eval (.Call (.Name "dict" p) [.Call (.Name "zip" p') [a,b] [] pos'] [] pos) ao) (.bi .dzip [x,z]):=by
 intro ai Z s Y ak h I;refine Call_Name (args:=[.Call (.Name "zip" p') [a,b] [] pos']) rfl (load_blt R.gd en I hg (by decide) (by decide) boot_dict ?_);refine PyProof.Rows.callWith_type (first:=[]) rfl (Calls.evalArgs_plain (Calls.spliced_cons ?_));refine Call_Name (args:=[a,b]) rfl (load_blt R.gd en I hg' (by decide) (by decide) boot_zip ?_);refine PyProof.Rows.callWith_type (first:=[]) (by refine O (F.1.1.star ao [b]) (O (F.2.2.1.1.star ao []) ?_); rfl) (args_fn F ?_);refine seqEs (bv:=bvEs [x,z]) h .refl (fun j0_ h=>h) (fun o e=>se_s F ai Z s Y o e I) fun rs fr₁ own₁ Z₁ s₁ vs e₁ h I₁ S₁ S Rs=>?_;refine hidG fun G g=>?_;refine ex2 (len2 (evs_len e₁)) fun r1 r2 Q=>?_;subst Q;refine ex2 (len2 Rs.length.symm) fun v1 v2 u=>?_;subst u;refine g ?_;refine ex1 (mo_s h) fun X u=>ex2 (rvDs_2 u.1) fun d e u'=>?_;obtain⟨q,hq,rfl⟩:=okV_eq (u'.2.2▸u.2);exact wpAny_mono (op_dzip (R.big I₁) R.hh hq (Rs.1.dat I₁ (rvD_frz u'.1)) (Rs.2.1.dat I₁ (rvD_frz u'.2.1)) I₁.zlv) (fun v s₂ p=>Calls.spliced_nil (wpAny_mono p (fun v s' p=>p.post I₁ S) fun j0_ j1_ x=>x)) fun j0_ j1_ x=>x
end
end Mv
end
section
namespace Mv
open PySem PyProof.Rows
variable [Hp]
noncomputable def Loose(y:Lay)(ai:Addr→Option Nat)(Z:Addr→Prop)(h₀ h:Heap)(b:Addr) :Prop:=h₀.get? b=none∧ ¬y.wr ai b∧ ¬y.F b∧ ¬Z b∧ ∃o,h.get? b=some o
section
variable {y:Lay}{bv bv':aw}{ai own' own'':Addr→Option Nat}{Z Z' Z'':Addr→Prop}{s s' s'':Shared}{h h' h₀:Heap}{Y fr':Fm}{ag:Addr→Prop}
theorem Step.loose(x:Step y bv ai Z s own' Z' s'){b:Addr}(l:Loose y ai Z h₀ s.heap b) :Loose y own' Z' h₀ s'.heap b∧ ∀o,s.heap.get? b=some o→s'.heap.get? b=some o:=by
 refine hidG fun G g=>?_;obtain⟨n0,nw,nf,nz,o,ho⟩:=l;refine g ?_;refine⟨⟨n0,fun w=>?_,nf,fun z=>?_,x.ext.live b o ho⟩,fun o e=>x.ext.keep b o e nw nf⟩
 .rcases wr_mono x.on b w with w | w
  .exact nw w
  .rw[w]at ho;exact nos ho
 .rcases x.zn b z with z | z | z
  .exact nz z
  .exact nw (.inl z)
  .rw[z]at ho;exact nos ho
theorem Inv.other(I:Inv y ai Z h Y)(hx:∀b,ag b→ ¬y.wr ai b∧ ¬y.F b∧ ¬Z b)(k:∀b o, ¬ag b→h.get? b=some o→h'.get? b=some o) :Inv y ai Z h' Y where
 wf:=I.wf
 base:=fun a o e=>k a o (fun q=>(hx a q).2.2<|I.zb a o e)<|I.base a o e
 zb:=I.zb
 zo:=I.zo
 zl:=I.zl
 ol:=I.ol
 zL:=I.zL
 oL:=I.oL
 zF:=I.zF
 oF:=I.oF
 zlv:=fun a z=>let ⟨o,e⟩:=I.zlv a z;⟨o,k a o (fun q=>(hx a q).2.2 z) e⟩
 olv:=fun a z=>let ⟨o,e⟩:=I.olv a z;⟨o,k a o (fun q=>(hx a q).1<|.inl z) e⟩
 flv:=fun a z=>let ⟨o,e,nr⟩:=I.flv a z;⟨o,k a o (fun q=>(hx a q).2.1 z) e,nr⟩
 ok:=fun i l e=>(I.ok i l e).keeps fun o=>k _ o fun q=>(hx _ q).1<|.inr<|.inr ⟨i,l,e,rfl⟩
 nsL:=let ⟨m,hn⟩:=I.nsL;⟨m,hn.at' fun o=>k _ o fun q=>(hx _ q).1<|.inr<|.inl rfl⟩
 sf:=fun p e=>(I.sf p e).mono (fun a o z=>k a o fun q=>(hx a q).2.2 z) (fun j0_ z=>z) fun l v hl r=>r.keeps fun o=>k _ o fun q=>(hx _ q).1<|.inr<|.inr ⟨_,l,hl,rfl⟩
 at':=fun i sl e n=>let ⟨l,v,hl,r,q⟩:=I.at' i sl e n;⟨l,v,hl,r.keeps fun o=>k _ o fun q=>(hx _ q).1<|.inr<|.inr ⟨i,l,hl,rfl⟩,
  q.mono (fun a o z=>k a o fun q=>(hx a q).2.2 z) (fun j0_ z=>z) (fun j0_ z=>z) fun a o z=>k a o fun q=>(hx a q).1<|.inl (by refine O z ?_;exact fun n=>by cases n)⟩
theorem Step.other(x:Step y bv ai Z s own' Z' s'){tk:Nat}(hx:∀b,ag b→s.heap.get? b=none∧ ¬y.wr own' b)(k:∀b o, ¬ag b→s'.heap.get? b=some o→h'.get? b=some o) :Step y bv ai Z s own' Z' {s' with heap:=h',toks:=tk}:=by
 have nx:∀a o,s.heap.get? a=some o→ ¬ag a:=fun a o e q=>by rw[(hx a q).1]at e;exact nos e
 refine⟨?_,⟨fun a o e nw nf=>k a o (nx a o e)<|x.ext.keep a o e nw nf,fun a o e=>?_,fun a o f e=>?_⟩,x.zm,x.zn,x.on,fun i l v n hl r=>(x.bind i l v n hl r).keeps fun o=>k _ o fun q=>(hx _ q).2<|.inr<|.inr ⟨i,l,hl,rfl⟩⟩
 .refine ex2 x.sh fun h tk' Q=>?_;subst Q;exact⟨_,_,rfl⟩
 .obtain⟨o',e'⟩:=x.ext.live a o e;exact⟨o',k a o' (nx a o e) e'⟩
 .exact ex1 (x.ext.fram a o f e) fun sl e'=>(⟨sl,k a _ (nx a o e) e'⟩)
theorem Loose.other{b:Addr}(l:Loose y ai Z h₀ h b)(k:∃o,h'.get? b=some o) :Loose y ai Z h₀ h' b:=⟨l.1,l.2.1,l.2.2.1,l.2.2.2.1,k⟩
end
theorem turn_dec{n k:Nat}(h:k≤n) :n+1 - (k+1)<n+1 - k:=Nat.sub_lt_sub_left (Nat.lt_succ_of_le h)<|Nat.lt_succ_self k
noncomputable def goers:List String:=["enumerate","zip","dict_itemiterator","dict_reverseitemiterator","odict_iterator","itertools.zip_longest","itertools.pairwise"]
theorem tgo{A:Around}{s:Shared}{g:Expr}{It:Addr}{v:Value}{o:Obj}{T:String}{Q:Unit→Shared→Prop}{E:Value→Shared→Prop}(he:s.heap.get? It=some o)(hc:o.cls = .type T)(hT:goers.contains T=false)(h:Q () s) :wpAny (model prog w) A (letOwnedTupleGo g (.ref It) v) Q E s:=by
 have key:wpAny (model prog w) A (do
   let (.ref r,.ref a):=(Value.ref It,v) | return
   let o ← load r
   match o.cls,o.data with
   | .type n,.fields vs=>
    if ["enumerate","zip","dict_itemiterator","dict_reverseitemiterator","odict_iterator","itertools.zip_longest","itertools.pairwise"].contains n && vs[0]? == some (rawInt a) then
     rule "for.unpacks-the-owned-tuple"
     updateField r 0 .none
   | _,_=>pure ()) Q E s:=by
  cases v with
  | ref a=>refine wpAny_bind<|wpAny_load he ?_;obtain⟨c,d,dt,sl⟩:=o;cases hc;cases dt with
   | fields vs=>dsimp only;exact O (if_neg (by refine O (show (["enumerate","zip","dict_itemiterator","dict_reverseitemiterator","odict_iterator","itertools.zip_longest","itertools.pairwise"].contains T)=false from hT) ?_; rw [Bool.false_and]; exact Bool.false_ne_true)) (wpAny_pure h)
   | _=>exact wpAny_pure h
  | _=>exact wpAny_pure h
 cases g with
 | Tuple es k p=>exact key
 | List es p=>exact key
 | _=>exact wpAny_pure h
inductive Itm where | one(v:Value) | two(x z:Value)
inductive IRep(h:Heap)(Z:Addr→Prop) :Itm→D→Prop
 | one {v:Value} {d:D} (r:Rep h Z v d) :IRep h Z (.one v) d
 | two {x z:Value} {a b:D} (r:Rep h Z x a) (q:Rep h Z z b) :IRep h Z (.two x z) (.tuple [a,b])
noncomputable def Itm.is(h h':Heap) :Itm→Value→Prop
 | .one u,v=>v=u
 | .two x z,v=> ∃T,v = .ref T∧h.get? T=none∧IsPair h' T x z
theorem IRep.mono{h h':Heap}{Z Z':Addr→Prop}{m:Itm}{d:D}(r:IRep h Z m d)(k:∀a o,Z a→h.get? a=some o→h'.get? a=some o)(z:∀a,Z a→Z' a) :IRep h' Z' m d:=by cases r with
 | one r=>exact .one<|r.mono k z
 | two r q=>exact .two (r.mono k z)<|q.mono k z
noncomputable def gOk(it:Itk)(g:Expr) :Prop:=it.pairs=true→ ∃es k p,g = .Tuple es k p
structure Wk(A:Around)(it:Itk)(I:Addr)(items:aB)(fp wr:List Addr)(P:Nat→Itm→Prop)(St:Nat→Heap→Prop) :Prop where
 sub:∀b∈wr,b∈fp
 frame:∀i h h',St i h→(∀b∈fp, ∀o,h.get? b=some o→h'.get? b=some o)→St i h'
 lv:∀i h,St i h→ ∀b∈fp, ∃o,h.get? b=some o
 item:∀i (s:Shared) (g:Expr) (Q:Value→Shared→Prop) (E:Value→Shared→Prop),gOk it g→i<items.length→St i s.heap→
  (∀m v h' tk,P i m→m.is s.heap h' v→St (i+1) h'→(∀b o,b∉wr→s.heap.get? b=some o→h'.get? b=some o)→Q v {s with heap:=h',toks:=tk})→
  wpAny (model prog w) A (pyNext<|.ref I) (fun o s₁=> ∃v,o=some v∧wpAny (model prog w) A (letOwnedTupleGo g (.ref I) v) (fun j0_ s₂=>Q v s₂) E s₁) E s
 done:∀(s:Shared)(Q:Option Value→Shared→Prop)(E:Value→Shared→Prop),St items.length s.heap→
  (∀h' tk,(∀b o,b∉wr→s.heap.get? b=some o→h'.get? b=some o)→Q none {s with heap:=h',toks:=tk})→wpAny (model prog w) A (pyNext<|.ref I) Q E s
 self:∀i (s:Shared) (Q:Value→Shared→Prop) (E:Value→Shared→Prop),St i s.heap→Q (.ref I) s→wpAny (model prog w) A (pyIter<|.ref I) Q E s
noncomputable def one1(P:Nat→Value→Prop)(i:Nat)(m:Itm) :Prop:= ∃v,m = .one v∧P i v
theorem Wk.of{A:Around}{it:Itk}{I:Addr}{items:aB}{fp wr:List Addr}{P:Nat→Value→Prop}{St:Nat→Heap→Prop}(wk:Walks prog w A I fp wr items.length P St)(lv:∀i h,St i h→ ∀b∈fp, ∃o,h.get? b=some o)
  (cls:∀i h,St i h→ ∃o T,h.get? I=some o∧o.cls = .type T∧goers.contains T=false) :Wk A it I items fp wr (one1 P) St where
 sub:=wk.sub
 frame:=wk.frame
 lv:=lv
 item:=fun i s g Q E j0_ hi st hQ=>wk.item i s _ E hi st fun v h' tk pv st' kp=>let ⟨_,_,e,c,n⟩:=cls _ _ st';⟨v,rfl,tgo (s:= {s with heap:=h',toks:=tk}) e c n<|hQ (.one v) v h' tk ⟨v,rfl,pv⟩ rfl st' kp⟩
 done:=wk.done
 self:=wk.self
structure WkAt(y:Lay)(items:aB)(fp wr:List Addr)(P:Nat→Itm→Prop)(St:Nat→Heap→Prop)(h₀:Heap)(ai:Addr→Option Nat)(Z:Addr→Prop)(h:Heap)(k:Nat) :Prop where
 st:St k h
 fp:∀b∈fp,Z b∨Loose y ai Z h₀ h b
 wr:∀b∈wr,Loose y ai Z h₀ h b
 it:∀i m,i<items.length→P i m→ ∃d,items[i]?=some d∧IRep h Z m d
section
variable {A:Around}{y:Lay}{bv bv':aw}{ai own' own'':Addr→Option Nat}{Z Z' Z'':Addr→Prop}{s s' s'':Shared}{h h' h₀:Heap}{Y fr':Fm}{I:Addr}{items:aB}{fp wr:List Addr}{P:Nat→Itm→Prop}{St:Nat→Heap→Prop}{k:Nat}{it:Itk}
theorem WkAt.step(W:Wk A it I items fp wr P St)(x:WkAt y items fp wr P St h₀ ai Z s.heap k)(i:Inv y ai Z s.heap Y)(S:Step y bv ai Z s own' Z' s') :WkAt y items fp wr P St h₀ own' Z' s'.heap k where
 st:=W.frame k _ _ x.st fun b hb o e=>(x.fp b hb).elim (fun z=>i.keepZ S.ext b o z e) fun l=>(S.loose l).2 o e
 fp:=fun b hb=>(x.fp b hb).imp (S.zm b) fun l=>(S.loose l).1
 wr:=fun b hb=>(S.loose<|x.wr b hb).1
 it:=fun j v hj p=>let ⟨d,e,r⟩:=x.it j v hj p;⟨d,e,r.mono (i.keepZ S.ext) S.zm⟩
theorem WkAt.other(W:Wk A it I items fp wr P St)(x:WkAt y items fp wr P St h₀ ai Z h k){ag:Addr→Prop}(hx:∀b,ag b→ ¬Z b∧b∉fp)(kp:∀b o, ¬ag b→h.get? b=some o→h'.get? b=some o) :WkAt y items fp wr P St h₀ ai Z h' k where
 st:=W.frame k _ _ x.st fun b hb o e=>kp b o (fun q=>(hx b q).2 hb) e
 fp:=fun b hb=>(x.fp b hb).imp id fun l=>l.other (let ⟨o,e⟩:=l.2.2.2.2;⟨o,kp b o (fun q=>(hx b q).2 hb) e⟩)
 wr:=fun b hb=>(x.wr b hb).other (let ⟨o,e⟩:=(x.wr b hb).2.2.2.2;⟨o,kp b o (fun q=>(hx b q).2<|W.sub b hb) e⟩)
 it:=fun j v hj p=>let ⟨d,e,r⟩:=x.it j v hj p;⟨d,e,r.mono (fun a o z=>kp a o fun q=>(hx a q).1 z) fun j0_ z=>z⟩
theorem next_item{d:D}{g:Expr}{Q:Option Value→Shared→Prop}{Qv:Value→Shared→Prop}{E:Value→Shared→Prop}(W:Wk A it I items fp wr P St)(gk:gOk it g)(x:WkAt y items fp wr P St s.heap own' Z' s'.heap k)(i:Inv y own' Z' s'.heap Y)(S:Step y bv ai Z s own' Z' s')(hd:items[k]?=some d)
  (hQ:∀v s₁,wpAny (model prog w) A (letOwnedTupleGo g (.ref I) v) (fun j0_ s₂=>Qv v s₂) E s₁→Q (some v) s₁)
  (h:∀v s'' Z'',(∀a,Z' a→Z'' a)→Rep s''.heap Z'' v d→WkAt y items fp wr P St s.heap own' Z'' s''.heap (k+1)→Inv y own' Z'' s''.heap Y→Step y bv ai Z s own' Z'' s''→(∀b,Loose y own' Z' s.heap s'.heap b→b∉wr→Loose y own' Z'' s.heap s''.heap b)→(∀b o,b∉wr→s'.heap.get? b=some o→s''.heap.get? b=some o)→Qv v s'') :
  wpAny (model prog w) A (pyNext<|.ref I) Q E s':=by
 have hk:=(List.getElem?_eq_some_iff.mp hd).1;refine wpAny_mono (W.item k s' g Qv E gk hk x.st fun m v h' tk hm hv hst kp=>?_) (fun o s₁ p=>ex1 p fun v p=>O p.1<|hQ v s₁ p.2) fun j0_ j1_ x=>x;have hX:∀b,b∈wr→ ¬y.wr own' b∧ ¬y.F b∧ ¬Z' b:=fun b hb=>⟨(x.wr b hb).2.1,(x.wr b hb).2.2.1,(x.wr b hb).2.2.2.1⟩
 have kz:∀a o,Z' a→s'.heap.get? a=some o→h'.get? a=some o:=fun a o z e=>kp a o (fun q=>(hX a q).2.2 z) e;have I1:=i.other hX kp;have S1:Step y bv ai Z s own' Z' {s' with heap:=h',toks:=tk}:=S.other (ag:=fun b=>b∈wr) (fun b hb=>⟨(x.wr b hb).1,(hX b hb).1⟩) kp;refine hidG fun G g1=>?_;obtain⟨d',e,r⟩:=x.it k m hk hm;rw[hd]at e;obtain rfl:=sos e;refine g1 ?_;have it1:∀j m,j<items.length→P j m→ ∃d,items[j]?=some d∧IRep h' Z' m d:=fun j m hj p=>let ⟨d,e,r⟩:=x.it j m hj p;⟨d,e,r.mono kz fun j0_ z=>z⟩
 have lv:=W.lv _ _ hst;cases r with
 | one r=>subst hv;exact h v {s' with heap:=h',toks:=tk} Z' (fun j0_ z=>z) (r.mono kz fun j0_ z=>z) ⟨hst,fun b hb=>(x.fp b hb).imp id fun l=>l.other<|lv b hb,fun b hb=>(x.wr b hb).other<|lv b<|W.sub b hb,it1⟩ I1 S1 (fun b l n=>l.other (let ⟨o,e⟩:=l.2.2.2.2;⟨o,kp b o n e⟩)) kp
 | two ra rb=>
  obtain⟨T,rfl,nT,hT⟩:=hv;have lo:∀b,Loose y own' Z' s.heap s'.heap b→(∃o,h'.get? b=some o)→Loose y own' (fun b=>Z' b∨b=T) s.heap h' b:=fun b l q=>⟨l.1,l.2.1,l.2.2.1,fun(z:Z' b∨b=T)=>z.elim l.2.2.2.1 (fun e=>by obtain⟨o,h⟩:=l.2.2.2.2;rw[e]at h;have h:=nT▸h;exact nos h),q⟩
  exact h (.ref T) {s' with heap:=h',toks:=tk} (fun b=>Z' b∨b=T) (fun j0_ z=>.inl z) (.tuple (.inr rfl) hT (by show 2≤Sz;decide)<|.cons (ra.mono kz fun j0_ z=>.inl z)<|.cons (rb.mono kz fun j0_ z=>.inl z) .nil)
   ⟨hst,fun b hb=>(x.fp b hb).imp .inl fun l=>lo b l<|lv b hb,fun b hb=>lo b (x.wr b hb)<|lv b<|W.sub b hb,fun j m hj p=>let ⟨d,e,r⟩:=it1 j m hj p;⟨d,e,r.mono (fun j0_ j1_ j2_ e=>e) fun j0_ z=>.inl z⟩⟩ (I1.addZ (i.fresh nT).1 (i.fresh nT).2.1 hT) (S1.addZ<|S.old _ nT) (fun b l n=>lo b l (let ⟨o,e⟩:=l.2.2.2.2;⟨o,kp b o n e⟩)) kp
theorem next_done{Q:Option Value→Shared→Prop}{E:Value→Shared→Prop}(W:Wk A it I items fp wr P St)(x:WkAt y items fp wr P St s.heap own' Z' s'.heap items.length)(i:Inv y own' Z' s'.heap Y)(S:Step y bv ai Z s own' Z' s')
  (h:∀s'',Inv y own' Z' s''.heap Y→Step y bv ai Z s own' Z' s''→(∀b o,b∉wr→s'.heap.get? b=some o→s''.heap.get? b=some o)→(∃h' tk,s''={s' with heap:=h',toks:=tk})→Q none s'') :
  wpAny (model prog w) A (pyNext<|.ref I) Q E s':=by
 refine W.done s' Q E x.st fun h' tk kp=>?_;have hX:∀b,b∈wr→ ¬y.wr own' b∧ ¬y.F b∧ ¬Z' b:=fun b hb=>⟨(x.wr b hb).2.1,(x.wr b hb).2.2.1,(x.wr b hb).2.2.2.1⟩
 exact h {s' with heap:=h',toks:=tk} (i.other hX kp) (S.other (ag:=fun b=>b∈wr) (fun b hb=>⟨(x.wr b hb).1,(hX b hb).1⟩) kp) kp ⟨_,_,rfl⟩
end
inductive PostI(A:Around)(y:Lay)(it:Itk)(bv:aw)(ai:Addr→Option Nat)(Z:Addr→Prop)(s:Shared)(ak:aA (List Rv)×Fm)(itv:Value)(s':Shared) :Prop
 | mk (rs:List Rv) (X items:aB) (own':Addr→Option Nat) (Z':Addr→Prop) (I:Addr) (fp wr:List Addr) (P:Nat→Itm→Prop) (St:Nat→Heap→Prop) :ak.1 = .ok rs→rvVs rs=some X→iterD it X=some items→items.length≤Sz→itv = .ref I→Inv y own' Z' s'.heap ak.2→Step y bv ai Z s own' Z' s'→Wk A it I items fp wr P St→WkAt y items fp wr P St s.heap own' Z' s'.heap 0→PostI A y it bv ai Z s ak itv s'
noncomputable def SI(A:Around)(c:Cfg)(y:Lay)(m:Sem Value)(it:Itk)(src:List Ex) :Prop:= ∀(ai:Addr→Option Nat)(Z:Addr→Prop)(s:Shared)(Y:Fm)(ak:aA (List Rv)×Fm),evs c src Y=some ak→
 (∀rs,ak.1 = .ok rs→ ∃X items,rvVs rs=some X∧iterD it X=some items)→Inv y ai Z s.heap Y→
 wpAny (model prog w) A m (fun x s₁=>wpAny (model prog w) A (pyIter x) (PostI A y it (bvEs src) ai Z s ak) (PostX y (bvEs src) ai Z s ak) s₁) (PostX y (bvEs src) ai Z s ak) s
section
variable {A:Around}{c:Cfg}{n:Nat}{ao:Env}{V:Sc}{y:Lay}
 {bv bv':aw} {ai own₁:Addr→Option Nat} {Z Z₁:Addr→Prop} {s s₁:Shared} {Y fr₁:Fm}
theorem evs_one{x:Ex}{ak:aA (List Rv)×Fm}(h:evs c [x] Y=some ak) :bndK (ev c x Y) (fun r Y=>some (.ok [r],Y))=some ak:=by
 rw[evs_cons]at h;rcases he:ev c x Y with _ | ⟨_ | r,f⟩
 .rw[he]at h;exact h
 .rw[he]at h;exact h
 .rw[he]at h;exact h
theorem wk_new{o:Obj}{items:aB}{fp:List Addr}{P:Nat→Value→Prop}{St:Nat→Heap→Prop}(I:Inv y own₁ Z₁ s₁.heap Y)(S:Step y bv ai Z s own₁ Z₁ s₁)(he:(s₁.heap.push o).get? s₁.heap.objs.size=some o)(hst:St 0 (s₁.heap.push o))
  (hfp:∀b∈fp,b=s₁.heap.objs.size∨Z₁ b) (hit:∀i v,i<items.length→P i v→ ∃d,items[i]?=some d∧Rep s₁.heap Z₁ v d) :
  WkAt y items fp [s₁.heap.objs.size] (one1 P) St s.heap own₁ Z₁ (s₁.heap.push o) 0:=by
 have e:=hN0 s₁.heap;have lo:Loose y own₁ Z₁ s.heap (s₁.heap.push o) s₁.heap.objs.size:=⟨S.old _ e,(I.fresh e).1,(I.fresh e).2.1,(I.fresh e).2.2,o,he⟩
 refine⟨hst,fun b hb=>(hfp b hb).elim (fun q=>.inr<|q▸lo) .inl,fun b hb=>?_,fun i m hi p=>?_⟩
 .cases hb with
  | head=>exact lo
  | tail _ h=>cases h
 .obtain⟨v,p⟩:=p;obtain rfl:=p.1;obtain⟨d,Q⟩:=hit i v hi p.2;exact⟨d,Q.1,.one<|Q.2.mono (fun a o j0_=>pK _ a o) fun j0_ z=>z⟩
theorem si_seq{e:Expr}{x:Ex}(R:Rn A c n)(H:SE A c y (eval e ao) x) :SI A c y (eval e ao) .seq [x]:=by intro ai Z s Y ak h hv I;have h:=evs_one h;refine seqE (bv:=bvE x) (bv':=bvE x++[]) h .refl inl_ (fun o e=>H ai Z s Y o e I) fun r fr₁ own₁ Z₁ s₁ v e₁ h I₁ S₁ S R1=>?_;obtain rfl:=sos h;obtain⟨X,items,hds,hit⟩:=hv _ rfl;simp only[rvVs_c,rvVs_n]at hds;cases hr:rvV r with
 | none=>rw[hr]at hds;exact nos hds
 | some d=>
  rw[hr]at hds;obtain rfl:=sos hds;obtain⟨Z₂,I₂,S₂,R₂⟩:=R1.freeze I₁ S hr;have fin:∀(o:Obj)(fp:List Addr)(P:Nat→Value→Prop)(St:Nat→Heap→Prop),items.length≤Sz→Wk A .seq s₁.heap.objs.size items fp [s₁.heap.objs.size] (one1 P) St→WkAt y items fp [s₁.heap.objs.size] (one1 P) St s.heap own₁ Z₂ (s₁.heap.push o) 0→
    PostI A y .seq (bvE x++[]) ai Z s (.ok [r],fr₁) (.ref s₁.heap.objs.size) {s₁ with heap:=s₁.heap.push o}:=fun o fp P St hl W WA=>
   ⟨[r],[d],items,own₁,Z₂,_,fp,_,one1 P,St,rfl,by simp[rvVs_c,rvVs_n,hr],hit,hl,rfl,I₂.grow<|pK o,S₂.trans<|.grow (tk:=s₁.toks)<|pK o,W,WA⟩
  have lt:∀a o,s₁.heap.get? a=some o→a≠s₁.heap.objs.size:=fun a o e q=>by rw[q,hN0]at e;exact nos e
  cases d with
  | list M=>
   cases hit;cases R₂ with
   | @list a vs _ m za hl hn Rs=>
   refine wpAny_pyIter_list hl.isList<|fin _ _ _ _ (by rw[← Rs.length];exact hn) (.of ?_ (fun i h st b hb=>?_) fun i h st=>let ⟨o,e,hc,_⟩:=st.1;⟨o,_,e,hc,by decide⟩)<|wk_new (fp:=[s₁.heap.objs.size,a]) (P:=fun i v=>vs.toArray[i]?=some v) (St:=fun i h=>h.IsListIter s₁.heap.objs.size a i∧h.IsList a vs.toArray) I₂ S₂ (Heap.get?_push_size _ rfl) ⟨⟨_,Heap.get?_push_size _ rfl,rfl,rfl⟩,(IsL.push hl _).isList⟩ (fun b hb=>?_) fun i v j0_ p=>?_
   .have:=Walks.list (prog:=prog) (w:=w) (A:=A) R.hh s₁.heap.objs.size a (lt _ _ hl) vs.toArray
    rw[show vs.toArray.size=items.length from(List.size_toArray ..).trans Rs.length]at this;exact this
   .rcases List.mem_cons.mp hb with rfl | hb
    .obtain⟨o,J⟩:=st.1;exact⟨o,J.1⟩
    .rw[List.mem_singleton]at hb;subst hb;obtain⟨o,j⟩:=st.2;exact⟨o,j.1⟩
   .rcases List.mem_cons.mp hb with rfl | hb
    .exact .inl rfl
    .rw[List.mem_singleton]at hb;subst hb;exact .inr za
   .exact Rs.getV (by simpa using p)
  | tuple M=>
   cases hit;cases R₂ with
   | @tuple a vs _ m za hl hn Rs=>
   refine wpAny_pyIter_tuple (⟨_,hl,rfl,_,rfl⟩)<|fin _ _ _ _ (by rw[← Rs.length];exact hn) (.of ?_ (fun i h st b hb=>?_) fun i h st=>let ⟨o,e,hc,_⟩:=st.1;⟨o,_,e,hc,by decide⟩)<|wk_new (fp:=[s₁.heap.objs.size,a]) (P:=fun i v=>vs.toArray[i]?=some v) (St:=fun i h=>h.IsTupleIter s₁.heap.objs.size a i∧h.IsTuple a vs.toArray) I₂ S₂ (Heap.get?_push_size _ rfl) ⟨⟨_,Heap.get?_push_size _ rfl,rfl,rfl⟩,⟨_,pK _ _ _ hl,rfl,_,rfl⟩⟩ (fun b hb=>?_) fun i v j0_ p=>?_
   .have:=Walks.tuple (prog:=prog) (w:=w) (A:=A) R.hh s₁.heap.objs.size a (lt _ _ hl) vs.toArray
    rw[show vs.toArray.size=items.length from(List.size_toArray ..).trans Rs.length]at this;exact this
   .rcases List.mem_cons.mp hb with rfl | hb
    .obtain⟨o,Q⟩:=st.1;exact⟨o,Q.1⟩
    .rw[List.mem_singleton]at hb;subst hb;obtain⟨o,U⟩:=st.2;exact⟨o,U.1⟩
   .rcases List.mem_cons.mp hb with rfl | hb
    .exact .inl rfl
    .rw[List.mem_singleton]at hb;subst hb;exact .inr za
   .exact Rs.getV (by simpa using p)
  | str x=>exact nos hit
  | none=>exact nos hit
  | bool b=>exact nos hit
  | int i=>exact nos hit
  | dict kvs=>exact nos hit
theorem si_range{e:Expr}{x:Ex}{p pos:Pos}(R:Rn A c n)(en:EnvOk A V ao y)(hg:V.isG "range")(hc:CE V e x)(H:SE A c y (eval e ao) x) :SI A c y (eval (.Call (.Name "range" p) [e] [] pos) ao) .range [x]:=by intro ai Z s Y ak h hv I;have h:=evs_one h;refine Call_Name (args:=[e]) rfl (load_blt R.gd en I hg (by decide) (by decide) boot_range ?_);refine PyProof.Rows.callWith_type (first:=[]) (by refine O (hc.star ao []) ?_;rfl) ?_;refine O (hc.star ao []) ?_;refine Calls.evalArgs_plain (Calls.spliced_cons ?_);refine seqE (bv:=bvE x) (bv':=bvE x++[]) h .refl inl_ (fun o e=>H ai Z s Y o e I) fun r fr₁ own₁ Z₁ s₁ v e₁ h I₁ S₁ S R1=>?_;obtain rfl:=sos h;obtain⟨X,items,hds,hit⟩:=hv _ rfl;simp only[rvVs_c,rvVs_n]at hds;cases hr:rvV r with
 | none=>rw[hr]at hds;exact nos hds
 | some d=>rw[hr]at hds;obtain rfl:=sos hds;cases d with
  | int i=>
   obtain⟨t,rfl⟩:=(R1.dat I₁ (rvV_D hr)).int;have hit0:=hit;have hit:(if -1000000000≤i∧i≤(Sz:Int) then some (rangeL 0 i.toNat) else none)=some _:=hit;have z37:=ifx hit;obtain rfl:=sos z37.2;refine Calls.spliced_nil (call_range_1 ?_);have hlo:=z37.1.1;refine wpAny_pyIter_range (IsRange.new ..) (small_one (Ln [] (.i (.g (.c 4611686018427387904)) (.c 0)) [] rfl) (Ln [] (.i (.p 1 (.c 0)) (.c 4611686018427387904)) [] rfl) (Li [i] (.i (.g (.c 4611686018427387904)) .x) [Gi (.g (.c 1000000000)) .x] rfl (z37.1).1) (Li [i] (.i (.p 1 .x) (.c 4611686018427387904)) [Gi .x (.n (.c 16777216))] rfl (z37.1).2)) ?_;let s₂:Shared:= {s₁ with heap:=s₁.heap.push {cls:=.type "range",data:=.fields #[.int 0 s₁.toks,.int i t,.int 1 (s₁.toks+1)]},toks:=s₁.toks+1+1}
   have e0:Builtin.Range.rangeSize 0 i 1=(i.toNat:Int):=by rw[rangeSize_nat];simp
   have hlen:(rangeL 0 i.toNat).length=i.toNat:=by simp[rangeL]
   refine⟨[r],[.int i],rangeL 0 i.toNat,own₁,Z₁,s₂.heap.objs.size,_,_,_,_,rfl,by simp[rvVs_c,rvVs_n,hr],hit0,by refine O hlen ?_;exact Int.toNat_le.mpr z37.1.2,rfl,(I₁.grow<|pK _).grow<|pK _,(S.trans<|.grow<|pK _).trans<|.grow (tk:=s₂.toks)<|pK _,(.of (by refine O hlen ?_;exact(Walks.range (prog:=prog) (w:=w) (A:=A) R.hh s₂.heap.objs.size 0 1 i.toNat)) (fun j h st b hb=>?_) fun i h st=>⟨_,_,st,rfl,by decide⟩),wk_new (s₁:=s₂) (I₁.grow<|pK _) (S.trans<|.grow<|pK _) (Heap.get?_push_size _ rfl) ?_ (fun b hb=>.inl (by rwa [List.mem_singleton]at hb)) fun j v hj p=>?_⟩
   .rw[List.mem_singleton]at hb;subst hb;exact⟨_,st⟩
   .exact O (show(0:Int)+((0:Nat) :Int)*1=0 from by simp) (O (show((i.toNat:Int) - ((0:Nat) :Int))=Builtin.Range.rangeSize 0 i 1 from by refine O e0 ?_;simp)<|Heap.get?_push_size _ rfl)
   .obtain⟨u,rfl⟩:=p;rw[hlen]at hj;refine⟨.int<|0+(j:Int),by simp[rangeL,hj],?_⟩;rw[Int.mul_one];exact .int _ u
  | none=>exact nos hit
  | bool b=>exact nos hit
  | str b=>exact nos hit
  | list b=>exact nos hit
  | tuple b=>exact nos hit
  | dict b=>exact nos hit
theorem si_rev{e:Expr}{x:Ex}{p pos:Pos}(R:Rn A c n)(en:EnvOk A V ao y)(hg:V.isG "reversed")(hc:CE V e x)(H:SE A c y (eval e ao) x) :SI A c y (eval (.Call (.Name "reversed" p) [e] [] pos) ao) .rev [x]:=by intro ai Z s Y ak h hv I;have h:=evs_one h;refine Call_Name (args:=[e]) rfl (load_blt R.gd en I hg (by decide) (by decide) boot_rev ?_);refine PyProof.Rows.callWith_type (first:=[]) (by refine O (hc.star ao []) ?_;rfl) ?_;refine O (hc.star ao []) ?_;refine Calls.evalArgs_plain (Calls.spliced_cons ?_);refine seqE (bv:=bvE x) (bv':=bvE x++[]) h .refl inl_ (fun o e=>H ai Z s Y o e I) fun r fr₁ own₁ Z₁ s₁ v e₁ h I₁ S₁ S R1=>?_;obtain rfl:=sos h;obtain⟨X,items,hds,hit⟩:=hv _ rfl;simp only[rvVs_c,rvVs_n]at hds;cases hr:rvV r with
 | none=>rw[hr]at hds;exact nos hds
 | some d=>rw[hr]at hds;obtain rfl:=sos hds;obtain⟨Z₂,I₂,S₂,R₂⟩:=R1.freeze I₁ S hr;cases d with
  | tuple M=>
   obtain rfl:=sos hit;cases R₂ with
   | @tuple a vs _ m za hl hn Rs=>
   have hsz:=(List.size_toArray ..).trans Rs.length;have hlen:M.reverse.length=vs.toArray.size:=by exact O List.length_reverse<|O hsz rfl
   have hz:(vs.toArray.size:Int)<2 ^ 63:=by
    have:vs.toArray.size≤16777216:=by exact O List.size_toArray hn
    exact(Ln [vs.toArray.size] (.i (.p 1<|.n .x)<|.c 9223372036854775808) [Gl .x<|.c 16777216] rfl this)
   refine Calls.spliced_nil (call_rv (items:=vs.toArray) ⟨_,hl,rfl,_,rfl⟩ hz fun tk=>?_);let o:Obj:= {cls:=.type "reversed",data:=.fields #[.ref a,rawInt ((vs.toArray.size:Int)-1)]}
   refine Rv.iter (Heap.get?_push_size _ rfl) ?_;refine⟨[r],[.tuple M],M.reverse,own₁,Z₂,s₁.heap.objs.size,[s₁.heap.objs.size,a],_,one1 fun i v=>vs.toArray[vs.toArray.size - 1 - i]?=some v,fun i h=>i≤vs.toArray.size∧IsRv h s₁.heap.objs.size a ((vs.toArray.size:Int) - 1 - (i:Int))∧IsTup h a vs.toArray,rfl,by simp[rvVs_c,rvVs_n,hr],hit,by refine O hlen<|O List.size_toArray ?_;exact hn,rfl,I₂.grow<|pK o,S₂.trans<|.grow (tk:=tk)<|pK o,.of ?_ (fun i h st b hb=>?_) (fun i h st=>⟨_,_,st.2.1,rfl,by decide⟩),wk_new (s₁:=s₁) I₂ S₂ (Heap.get?_push_size _ rfl) ⟨Nat.zero_le _,?_,⟨_,pK _ _ _ hl,rfl,_,rfl⟩⟩ (fun b hb=>?_) fun i v hi p=>?_⟩
   .exact O hlen (Walks.rv (prog:=prog) (w:=w) (A:=A) R.hh s₁.heap.objs.size a (Nat.ne_of_lt<|Heap.lt_size hl) vs.toArray hz)
   .rcases List.mem_cons.mp hb with rfl | hb
    .exact⟨_,st.2.1⟩
    .rw[List.mem_singleton]at hb;subst hb;obtain⟨o,j⟩:=st.2.2;exact⟨o,j.1⟩
   .exact O (show(vs.toArray.size:Int) - 1 - ((0:Nat) :Int)=(vs.toArray.size:Int) - 1 from Int.sub_zero _) (Heap.get?_push_size _ rfl)
   .rcases List.mem_cons.mp hb with rfl | hb
    .exact .inl rfl
    .rw[List.mem_singleton]at hb;subst hb;exact .inr za
   .rw[List.length_reverse]at hi;refine O (List.getElem?_reverse hi) ?_;rw[hsz]at p;exact Rs.getV (by simpa using p)
  | none=>exact nos hit
  | bool b=>exact nos hit
  | str b=>exact nos hit
  | list b=>exact nos hit
  | int b=>exact nos hit
  | dict b=>exact nos hit
end
end Mv
end
section
namespace Mv
open PySem PyProof.Rows
variable [Hp]
section
variable {A:Around}{c:Cfg}{n:Nat}{ao:Env}{V:Sc}{y:Lay}
 {bv bv':aw} {ai own₁:Addr→Option Nat} {Z Z₁:Addr→Prop} {s s₁:Shared} {Y fr₁:Fm} {h h':Heap}
theorem zipL_at:∀(M zs:aB)(i:Nat),i<(zipL M zs).length→ ∃a b,(zipL M zs)[i]?=some (.tuple [a,b])∧M[i]?=some a∧zs[i]?=some b:=by intro M;induction M with
 | nil=>intro zs i hi;cases hi
 | cons a M ih=>intro zs i hi;cases zs with
  | nil=>cases hi
  | cons b zs=>cases i with
   | zero=>exact⟨a,b,rfl,rfl,rfl⟩
   | succ i=>exact ih zs i<|Nat.lt_of_succ_lt_succ hi
theorem zipL_min:∀(M zs:aB),(zipL M zs).length≤M.length∧((zipL M zs).length=M.length∨(zipL M zs).length=zs.length):=by intro M;induction M with
 | nil=>intro zs;exact⟨Nat.le_refl _,.inl rfl⟩
 | cons a M ih=>intro zs;cases zs with
  | nil=>exact⟨Nat.zero_le _,.inr rfl⟩
  | cons b zs=>exact⟨Nat.succ_le_succ (ih zs).1,(ih zs).2.imp (congrArg (· + 1))<|congrArg (· + 1)⟩
theorem zipL_get{M zs:aB}{vs us:ay}{i:Nat}(R:RepAll h Z vs M)(Q:RepAll h Z us zs)(hi:i<(zipL M zs).length) :∃a b x u,(zipL M zs)[i]?=some (.tuple [a,b])∧vs[i]?=some x∧us[i]?=some u∧Rep h Z x a∧Rep h Z u b:=by refine ex2 (zipL_at M zs i hi) fun a b q=>?_;obtain⟨x,hx,rx⟩:=R.get q.2.1;obtain⟨u,hu,ru⟩:=Q.get q.2.2;exact⟨a,b,x,u,q.1,hx,hu,rx,ru⟩
theorem zipL_end{M zs:aB}{vs us:ay}(R:RepAll h Z vs M)(Q:RepAll h Z us zs) :vs[(zipL M zs).length]?=none∨us[(zipL M zs).length]?=none:=
 (zipL_min M zs).2.imp (fun e=>by refine O e<|O R.length.symm ?_;exact List.getElem?_eq_none<|Nat.le_refl _) fun e=>by exact O e<|O Q.length.symm<|List.getElem?_eq_none<|Nat.le_refl _
noncomputable def two2(vs us:ay)(i:Nat)(m:Itm) :Prop:= ∃x u,vs[i]?=some x∧us[i]?=some u∧m = .two x u
variable {z TI TO i1 i2 l1 l2:Addr}{vs us:ay}
inductive ZS(z TI TO i1 i2 l1 l2:Addr)(vs us:ay)(k:Nat)(h:Heap) :Prop
 | mk (u v:Value) :IsZip h z TI TO .none→IsPair h TI (.ref i1) (.ref i2)→IsPair h TO u v→ItS h i1 l1 vs.toArray k false→ItS h i2 l2 us.toArray k false→ZS z TI TO i1 i2 l1 l2 vs us k h
theorem mem7{P:Addr→Prop}{a b c d e f g:Addr}(h1:P a)(h2:P b)(h3:P c)(h4:P d)(h5:P e)(h6:P f)(h7:P g) :∀x∈ [a,b,c,d,e,f,g],P x:=fun x hx=>by simp only[List.mem_cons,List.not_mem_nil,or_false]at hx;rcases hx with rfl | rfl | rfl | rfl | rfl | rfl | rfl <;> assumption
theorem mem4{P:Addr→Prop}{a b c d:Addr}(h1:P a)(h2:P b)(h3:P c)(h4:P d) :∀x∈ [a,b,c,d],P x:=fun x hx=>by simp only[List.mem_cons,List.not_mem_nil,or_false]at hx;rcases hx with rfl | rfl | rfl | rfl <;> assumption
theorem ZS.zst{k:Nat}(S:ZS z TI TO i1 i2 l1 l2 vs us k h) :ZSt z TI TO i1 i2 l1 l2 vs.toArray us.toArray k false false h:=by obtain⟨u,v,a,b,c,d,e⟩:=S;exact⟨_,_,u,v,a,.new,b,c,d,e⟩
theorem ItS.live2{it l:Addr}{M:Array Value}{k:Nat}(x:ItS h it l M k false) :(∃o,h.get? it=some o)∧ ∃o,h.get? l=some o:=by obtain⟨⟨o,e,_⟩,o',e',_⟩:=x;exact⟨⟨o,e⟩,o',e'⟩
theorem ZS.lv{k:Nat}(S:ZS z TI TO i1 i2 l1 l2 vs us k h) :∀b∈ [z,TI,TO,i1,i2,l1,l2], ∃o,h.get? b=some o:=by obtain⟨u,v,a,b,c,d,e⟩:=S;exact mem7 ⟨_,a⟩ ⟨_,b⟩ ⟨_,c⟩ d.live2.1 e.live2.1 d.live2.2 e.live2.2
theorem ZS.at{k:Nat}(S:ZS z TI TO i1 i2 l1 l2 vs us k h)(q:∀b∈ [z,TI,TO,i1,i2,l1,l2], ∀o,h.get? b=some o→h'.get? b=some o) :ZS z TI TO i1 i2 l1 l2 vs us k h':=by obtain⟨u,v,a,b,c,d,e⟩:=S;exact⟨u,v,q _ (by simp) _ a,q _ (by simp) _ b,q _ (by simp) _ c,d.at (q _ (by simp))<|q _ (by simp),e.at (q _ (by simp))<|q _ (by simp)⟩
theorem wk_zip{M zs:aB}(hh:A.handled=none)(D:ZipApart z TI TO i1 i2 l1 l2)(R:RepAll h Z vs M)(Q:RepAll h Z us zs) :
  Wk A .zip z (zipL M zs) [z,TI,TO,i1,i2,l1,l2] [z,TO,i1,i2] (two2 vs us) fun k h=>ZS z TI TO i1 i2 l1 l2 vs us k h where
 sub:=mem4 (by simp) (by simp) (by simp) (by simp)
 frame:=fun i h h' S k=>S.at k
 lv:=fun i h S=>S.lv
 item:=fun i s g P E gk hi S hQ=>by
  refine ex3 (gk rfl) fun es kk p j=>?_;subst j;refine ex4 (zipL_get R Q hi) fun a b x u U=>?_;have S0:=S.zst;obtain⟨_,_,hz,_⟩:=S;refine zNext_item hh D S0 (by simpa using U.2.1) (by simpa using U.2.2.1) fun h' T nT S' hT k zi=>⟨_,rfl,wpAny_letOwnedTupleGo_zip (s:= {s with heap:=h'}) (zi hz) fun h'' z'' sb=>?_⟩
  have ne:∀{b:Addr},b≠z→ ∀o,h'.get? b=some o→h''.get? b=some o:=fun q o e=>sb.extBut _ o q e;have tz:T≠z:=fun q=>by have nT:=q▸nT;have hz:s.heap.get? z=_:=hz;rw[nT]at hz;exact nos hz
  obtain⟨_,_,_,_,_,_,t2,t3,t4,t5⟩:=S';exact hQ (.two x u) _ h'' s.toks ⟨x,u,U.2.1,U.2.2.1,rfl⟩ ⟨_,rfl,nT,ne tz _ hT⟩ ⟨_,_,z'',ne D.TIz _ t2,ne D.TOz _ t3,t4.at (ne D.i1z)<|ne D.l1z,t5.at (ne D.i2z)<|ne D.l2z⟩
   fun b o nb e=>ne (fun q=>nb<|q▸ .head _) o<|k b o (fun q=>nb<|q▸ .head _) (fun q=>nb<|q▸ .tail _ (.head _)) (fun q=>nb<|q▸ .tail _ (.tail _<|.head _)) (fun q=>nb<|q▸ .tail _ (.tail _<|.tail _<|.head _)) e
 done:=fun s P E S hQ=>zNext_end hh D S.zst (by simpa using zipL_end R Q) fun h' k=>hQ h' s.toks fun b o nb e=>k b o (fun q=>nb<|q▸ .head _) (fun q=>nb<|q▸ .tail _ (.head _)) (fun q=>nb<|q▸ .tail _ (.tail _<|.head _)) (fun q=>nb<|q▸ .tail _ (.tail _<|.tail _<|.head _)) e
 self:=fun i s P E S hQ=>zIter S.zst hQ
theorem evs_id{M:List Ex}{ak:aA (List Rv)×Fm}(h:evs c M Y=some ak) :bndK (evs c M Y) (fun rs Y=>some (.ok rs,Y))=some ak:=by refine O h ?_;obtain⟨_ | _,_⟩:=ak <;> rfl
theorem iter_zip{X items:aB}(h:iterD .zip X=some items) :∃M zs,X=[.tuple M,.tuple zs]∧zipL M zs=items:=by cases X with
 | nil=>exact nos h
 | cons d X=>cases d with
  | tuple M=>cases X with
   | nil=>exact nos h
   | cons e X=>cases e with
    | tuple zs=>cases X with
     | nil=>exact⟨_,_,rfl,sos h⟩
     | cons=>exact nos h
    | _=>exact nos h
  | _=>exact nos h
theorem si_zip{e1 e2:Expr}{x1 x2:Ex}{p pos:Pos}(R:Rn A c n)(en:EnvOk A V ao y)(hg:V.isG "zip")(F:F2 (fun e x=>CE V e x∧SE A c y (eval e ao) x) [e1,e2] [x1,x2]) :
  SI A c y (eval (.Call (.Name "zip" p) [e1,e2] [] pos) ao) .zip [x1,x2]:=by
 intro ai Z s Y ak h hv I;have h:=evs_id h;refine Call_Name (args:=[e1,e2]) rfl<|load_blt R.gd en I hg (by decide) (by decide) boot_zip ?_;refine PyProof.Rows.callWith_type (first:=[]) (by refine O (F.1.1.star ao [e2])<|O (F.2.2.1.1.star ao []) ?_;rfl)<|args_fn F ?_;refine seqEs (bv:=bvEs [x1,x2]) h .refl (fun j0_ h=>h) (fun o e=>se_s F ai Z s Y o e I) fun rs fr₁ own₁ Z₁ s₁ vs e₁ h I₁ S₁ S Rs=>?_;obtain rfl:=sos h;refine hidG fun G g=>?_;refine ex2 (hv _ rfl) fun X items U=>?_;obtain⟨M,zs,rfl,rfl⟩:=iter_zip U.2;have RR:=Rs.repAll U.1;refine g ?_;cases RR with | @cons v _ _ _ r1 RR=>
 cases RR with | @cons v' _ _ _ r2 RR=>
 cases RR with | nil=>
 refine hidG fun G g=>?_;obtain⟨l1,v1,_,rfl,t1,n1,R1,z1⟩:=Dat.tuple<|.inl r1;obtain⟨l2,v2,_,rfl,t2,n2,R2,z2⟩:=Dat.tuple<|.inl r2;refine g ?_;refine call_z (b:=false) (b2:=false) (M:=v1.toArray) (ys:=v2.toArray) ⟨_,t1,rfl,_,rfl⟩ ⟨_,t2,rfl,_,rfl⟩ fun h' S' iz k=>zIter (s:= {s₁ with heap:=h'}) S' ?_;have nn:∀j,s₁.heap.get? (s₁.heap.objs.size+j)=none:=fun j=>Heap.get?_none_of_le<|Nat.le_add_right _ _;have lo:∀{b},s₁.heap.get? b=none→(∃o,h'.get? b=some o)→Loose y own₁ Z₁ s.heap h' b:=fun e q=>⟨S.old _ e,(I₁.fresh e).1,(I₁.fresh e).2.1,(I₁.fresh e).2.2,q⟩
 obtain⟨f0,f1,u,v,_,_,a3,a4,a5,a6⟩:=S';refine⟨rs,_,zipL M zs,own₁,Z₁,_,_,_,_,_,rfl,U.1,rfl,Nat.le_trans (zipL_min M zs).1 (by refine O R1.length.symm ?_;exact n1),rfl,I₁.grow k,S.trans<|.grow (tk:=s₁.toks) k,wk_zip R.hh (zipApart_new (Heap.lt_size t1)<|Heap.lt_size t2) R1 R2,⟨⟨u,v,iz,a3,a4,a5,a6⟩,mem7 (.inr<|lo (nn 4) ⟨_,iz⟩) (.inr<|lo (nn 2) ⟨_,a3⟩) (.inr<|lo (nn 3) ⟨_,a4⟩) (.inr<|lo (nn 0) a5.live2.1) (.inr<|lo (nn 1) a6.live2.1) (.inl z1)<|.inl z2,mem4 (lo (nn 4) ⟨_,iz⟩) (lo (nn 3) ⟨_,a4⟩) (lo (nn 0) a5.live2.1)<|lo (nn 1) a6.live2.1,fun i m hi p=>?_⟩⟩;refine ex2 p fun x u p=>?_;obtain rfl:=p.2.2;refine ex4 (zipL_get R1 R2 hi) fun a b x' u' Q=>?_;have e:=Q.1;have ex:=Q.2.1;have eu:=Q.2.2.1;have ra:=Q.2.2.2.1;have rb:=Q.2.2.2.2;rw[p.1]at ex;refine O (sos ex) ?_;rw[p.2.1]at eu;refine O (sos eu) ?_;exact⟨_,e,.two (ra.mono (fun a o j0_=>k a o) fun j0_ z=>z)<|rb.mono (fun a o j0_=>k a o) fun j0_ z=>z⟩
theorem enumL_at:∀(M:aB)(k i:Nat),(enumL k M)[i]?=(M[i]?).map fun d=>.tuple [.int (k+i:Nat),d]:=by intro M;induction M with
 | nil=>intro k i;rfl
 | cons a M ih=>intro k i;cases i with
  | zero=>rfl
  | succ i=>refine(ih (k+1) i).trans ?_;refine O (show k+1+i=k+(i+1) from Nat.succ_add_eq_add_succ k i) ?_;rfl
theorem enumL_len:∀(M:aB)(k:Nat),(enumL k M).length=M.length:=by intro M;induction M with
 | nil=>intro k;rfl
 | cons a M ih=>intro k;exact congrArg (· + 1)<|ih<|k+1
noncomputable def enm(vs:ay)(i:Nat)(m:Itm) :Prop:= ∃t x,vs[i]?=some x∧m = .two (.int i t) x
inductive ES(e it l:Addr)(vs:ay)(k:Nat)(h:Heap) :Prop
 | mk (old:Value) :IsEnum h e it k old→h.IsListIter it l k→h.IsList l vs.toArray→ES e it l vs k h
variable {e it l:Addr}
theorem mem3{P:Addr→Prop}{a b c:Addr}(h1:P a)(h2:P b)(h3:P c) :∀x∈ [a,b,c],P x:=fun x hx=>by simp only[List.mem_cons,List.not_mem_nil,or_false]at hx;rcases hx with rfl | rfl | rfl <;> assumption
theorem mem2{P:Addr→Prop}{a b:Addr}(h1:P a)(h2:P b) :∀x∈ [a,b],P x:=fun x hx=>by simp only[List.mem_cons,List.not_mem_nil,or_false]at hx;rcases hx with rfl | rfl <;> assumption
theorem wk_enum{M:aB}(hh:A.handled=none)(hei:e≠it)(hle:l≠e)(hli:l≠it)(R:vs.length=M.length) :
  Wk A .enum e (enumL 0 M) [e,it,l] [e,it] (enm vs) fun k h=>ES e it l vs k h where
 sub:=mem2 (by simp) (by simp)
 frame:=fun i h h' S k=>by obtain⟨old,a,b,c⟩:=S;exact⟨old,k _ (by simp) _ a,b.at<|k _ (by simp),c.at<|k _ (by simp)⟩
 lv:=fun i h S=>by obtain⟨old,a,⟨o,b,_⟩,⟨o',c,_⟩⟩:=S;exact mem3 ⟨_,a⟩ ⟨o,b⟩ ⟨o',c⟩
 item:=fun i s g P E gk hi S hQ=>by
  refine ex3 (gk rfl) fun es kk p Q=>?_;subst Q;obtain⟨old,a,b,c⟩:=S;rw[enumL_len]at hi;have hi:=R.symm▸hi;have hx:vs.toArray[i]?=some vs[i]:=by simp[hi]
  refine wpAny_pyNext_enum_item a b c hx hei fun h' ho hit hT hsz hk=>⟨_,rfl,wpAny_letOwnedTupleGo_enum ho fun h'' he sb=>?_⟩
  have ne:∀{b:Addr},b≠e→ ∀o,h'.get? b=some o→h''.get? b=some o:=fun q o e=>sb.extBut _ o q e;exact hQ (.two (.int i s.toks) vs[i]) _ h'' (s.toks+1) ⟨_,_,List.getElem?_eq_getElem hi,rfl⟩ ⟨_,rfl,hN0 _,ne (Nat.ne_of_gt<|Heap.lt_size a) _ hT⟩ ⟨_,he,hit.at<|ne hei.symm,c.at fun o e=>ne hle o<|hk l o hle hli e⟩
   fun b o nb e=>ne (fun q=>nb<|q▸ .head _) o<|hk b o (fun q=>nb<|q▸ .head _) (fun q=>nb<|q▸ .tail _ (.head _)) e
 done:=fun s P E S hQ=>by obtain⟨old,a,b,c⟩:=S;rw[enumL_len,← R]at a b;exact wpAny_pyNext_enum_end hh a b c (by simp) fun h' k=>hQ h' s.toks fun b o nb e=>k b o (fun q=>nb<|q▸ .tail _ (.head _)) e
 self:=fun i s P E S hQ=>by obtain⟨old,a,_⟩:=S;exact wpAny_pyIter_enum a hQ
theorem si_enum{e:Expr}{x:Ex}{p pos:Pos}(R:Rn A c n)(en:EnvOk A V ao y)(hg:V.isG "enumerate")(hc:CE V e x)(H:SE A c y (eval e ao) x) :SI A c y (eval (.Call (.Name "enumerate" p) [e] [] pos) ao) .enum [x]:=by intro ai Z s Y ak h hv I;have h:=evs_one h;refine Call_Name (args:=[e]) rfl (load_blt R.gd en I hg (by decide) (by decide) boot_enumerate ?_);refine PyProof.Rows.callWith_type (first:=[]) (by refine O (hc.star ao []) ?_;rfl) ?_;refine O (hc.star ao []) ?_;refine Calls.evalArgs_plain (Calls.spliced_cons ?_);refine seqE (bv:=bvE x) (bv':=bvE x++[]) h .refl inl_ (fun o e=>H ai Z s Y o e I) fun r fr₁ own₁ Z₁ s₁ v e₁ h I₁ S₁ S R1=>?_;obtain rfl:=sos h;obtain⟨X,items,hds,hit⟩:=hv _ rfl;simp only[rvVs_c,rvVs_n]at hds;cases hr:rvV r with
 | none=>rw[hr]at hds;exact nos hds
 | some d=>rw[hr]at hds;obtain rfl:=sos hds;cases d with
  | list M=>
   refine O (sos hit) ?_;obtain⟨Z₂,I₂,S₂,R₂⟩:=R1.freeze I₁ S hr;cases R₂ with
   | @list l vs _ m za hl hn Rs=>
   refine Calls.spliced_nil<|call_enumerate_1 hl fun h' he hit' hz k=>wpAny_pyIter_enum (s:= {s₁ with heap:=h'}) he ?_;have nn:∀j,s₁.heap.get? (s₁.heap.objs.size+j)=none:=fun j=>Heap.get?_none_of_le<|Nat.le_add_right _ _;have lo:∀{b},s₁.heap.get? b=none→(∃o,h'.get? b=some o)→Loose y own₁ Z₂ s.heap h' b:=fun e q=>⟨S₂.old _ e,(I₂.fresh e).1,(I₂.fresh e).2.1,(I₂.fresh e).2.2,q⟩
   have d2:=lo (nn 0) (let ⟨o,e,_⟩:=hit';⟨o,e⟩);refine⟨[r],[.list M],enumL 0 M,own₁,Z₂,_,_,_,_,_,rfl,by simp[rvVs_c,rvVs_n,hr],rfl,by rw[enumL_len];refine O Rs.length.symm ?_;exact hn,rfl,I₂.grow k,S₂.trans<|.grow (tk:=s₁.toks) k,wk_enum R.hh (Nat.ne_of_gt<|Nat.lt_succ_self _) (Nat.ne_of_lt<|Nat.lt_succ_of_lt<|Heap.lt_size hl) (Nat.ne_of_lt<|Heap.lt_size hl) Rs.length,⟨⟨_,he,hit',⟨_,k _ _ hl,rfl,_,rfl⟩⟩,mem3 (.inr<|lo (nn 1) ⟨_,he⟩) (.inr d2)<|.inl za,mem2 (lo (nn 1) ⟨_,he⟩) d2,fun i m hi p=>?_⟩⟩;refine ex2 p fun t x p=>?_;obtain rfl:=p.2;rw[enumL_len]at hi;obtain⟨x',hx',rx⟩:=Rs.get<|List.getElem?_eq_getElem hi;rw[p.1]at hx';refine O (sos hx') ?_;refine⟨_,(enumL_at M 0 i).trans (by refine O (List.getElem?_eq_getElem hi) ?_;rfl),.two ?_<|rx.mono (fun a o j0_=>k a o) fun j0_ z=>z⟩;rw[Nat.zero_add];exact .int _ t
  | _=>exact nos hit
theorem iter_r3{X items:aB}(h:iterD .range3 X=some items) :X=[.int 3,.int<|-1,.int<|-1]∧items=[.int 3,.int 2,.int 1,.int 0]:=by
 rcases X with _ | ⟨a,_ | ⟨b,_ | ⟨e,_ | ⟨_,_⟩⟩⟩⟩
 .exact nos h
 .cases a <;> exact nos h
 .cases a <;> first | exact nos h | (cases b <;> exact nos h)
 .cases a <;> first | exact nos h | (cases b <;> first | exact nos h | (cases e <;> first | exact nos h | skip))
  have z:=ifs (r:=items) h;obtain⟨rfl,rfl,rfl⟩:=z.1;exact⟨rfl,z.2.symm⟩
 .cases a <;> first | exact nos h | (cases b <;> first | exact nos h | (cases e <;> exact nos h))
theorem si_range3{a b e:Expr}{x z u:Ex}{p pos:Pos}(R:Rn A c n)(en:EnvOk A V ao y)(hg:V.isG "range")(F:F2 (fun e x=>CE V e x∧SE A c y (eval e ao) x) [a,b,e] [x,z,u]) :
  SI A c y (eval (.Call (.Name "range" p) [a,b,e] [] pos) ao) .range3 [x,z,u]:=by
 intro ai Z s Y ak h hv I;have h:=evs_id h;refine Call_Name (args:=[a,b,e]) rfl<|load_blt R.gd en I hg (by decide) (by decide) boot_range ?_;refine PyProof.Rows.callWith_type (first:=[]) (by refine O (F.1.1.star ao [b,e])<|O (F.2.2.1.1.star ao [e])<|O (F.2.2.2.2.1.1.star ao []) ?_;rfl)<|args_fn F ?_;refine seqEs (bv:=bvEs [x,z,u]) h .refl (fun j0_ h=>h) (fun o e=>se_s F ai Z s Y o e I) fun rs fr₁ own₁ Z₁ s₁ vs e₁ h I₁ S₁ S Rs=>?_;obtain rfl:=sos h;refine ex2 (hv _ rfl) fun X items U=>?_;have q3:=iter_r3 U.2;obtain⟨rfl,rfl⟩:=q3;have RR:=Rs.repAll U.1;cases RR with | @cons v1 _ _ _ r1 RR=>
 cases RR with | @cons v2 _ _ _ r2 RR=>
 cases RR with | @cons v3 _ _ _ r3 RR=>
 cases RR with | nil=>
 obtain⟨t1,rfl⟩:=Dat.int (.inl r1);obtain⟨t2,rfl⟩:=Dat.int (.inl r2);obtain⟨t3,rfl⟩:=Dat.int (.inl r3);refine call_range_3 (by decide) ?_;refine wpAny_pyIter_range (IsRange.new ..) (by decide +kernel) ?_;let s₂:Shared:= {s₁ with heap:=s₁.heap.push {cls:=.type "range",data:=.fields #[.int 3 t1,.int (-1) t2,.int (-1) t3]}}
 refine⟨rs,_,_,own₁,Z₁,s₂.heap.objs.size,_,_,_,_,rfl,U.1,rfl,by show 4≤Sz;decide,rfl,(I₁.grow<|pK _).grow<|pK _,(S.trans<|.grow<|pK _).trans<|.grow (tk:=s₂.toks)<|pK _,(.of (Walks.range (prog:=prog) (w:=w) (A:=A) R.hh s₂.heap.objs.size 3 (-1) 4) (fun j h st b hb=>?_) fun i h st=>⟨_,_,st,rfl,by decide⟩),wk_new (s₁:=s₂) (I₁.grow<|pK _) (S.trans<|.grow<|pK _) (Heap.get?_push_size _ rfl) (Heap.get?_push_size _ rfl) (fun b hb=>.inl (by rwa [List.mem_singleton]at hb)) fun j v hj p=>?_⟩
 .rw[List.mem_singleton]at hb;subst hb;exact⟨_,st⟩
 .obtain⟨t,rfl⟩:=p;rcases j with _ | _ | _ | _ | j
  .exact⟨_,rfl,.int _ t⟩
  .exact⟨_,rfl,.int _ t⟩
  .exact⟨_,rfl,.int _ t⟩
  .exact⟨_,rfl,.int _ t⟩
  .exact absurd hj (Nat.not_lt.mpr<|Nat.le_add_left 4 j)
end
end Mv
end
section
set_option backward.match.sparseCases false
namespace Mv
open PySem PyProof.Rows
variable [Hp]
noncomputable def mkP(ao:Env)(po:Pos) :List (Option Expr)→az→List (Sem Value×Sem Value)
 | some k::ks,v::vs=>(eval k ao,do let x ← eval v ao;standAt po;pure x)::mkP ao po ks vs
 | _,_=>[]
theorem mkP_shape(ao:Env)(po:Pos) :∀{kes:List (Option Expr)}{ks:ax}(vals:az),KS kes ks→((evalEachOpt kes ao).zip ((evalEach vals ao).map fun v=>do let x ← v;standAt po;pure x)=(mkP ao po kes vals).map fun p=>(some p.1,p.2))∧((mkP ao po kes vals).length=min ks.length vals.length):=by intro kes ks vals h;induction h generalizing vals with
 | nil=>exact⟨rfl,by cases vals <;> exact(Nat.zero_min _).symm⟩
 | @cons k kk p es ks t ih=>cases vals with
  | nil=>exact⟨rfl,(Nat.min_zero _).symm⟩
  | cons v vals=>exact⟨congrArg (_ :: ·) (ih vals).1,(congrArg (· + 1) (ih vals).2).trans (Nat.add_min_add_right _ _ 1).symm⟩
section
variable {A:Around}{c:Cfg}{n:Nat}{ao:Env}{V:Sc}{y:Lay}
 {bv bv':aw} {ai own₁:Addr→Option Nat} {Z Z₁:Addr→Prop} {s s₁:Shared} {Y fr₁:Fm}
noncomputable def PostP(prog:Program)(w:World)(y:Lay)(bv:aw)(ai:Addr→Option Nat)(Z:Addr→Prop)(s:Shared)(ks:ax)(ak:aA (List Rv)×Fm)(prs:List (Value×Value))(s':Shared) :Prop:=
 ∃vs,PostEs y bv ai Z s ak vs s'∧Carries (strKind prog w) prs (ks.zip vs)
theorem pairs_s{po:Pos}{kes:List (Option Expr)}{ks:ax}(H:KS kes ks) :∀{es:az}{M:List Ex},F2 (fun e x=>CE V e x∧SE A c y (eval e ao) x) es M→ks.length=M.length→ ∀(ai:Addr→Option Nat)(Z:Addr→Prop)(s:Shared)(Y:Fm)(ak:aA (List Rv)×Fm),evs c M Y=some ak→Inv y ai Z s.heap Y→
  wpAny (model prog w) A (evalPairs<|mkP ao po kes es) (PostP prog w y (bvEs M) ai Z s ks ak) (PostX y (bvEs M) ai Z s ak) s:=by
 induction H with
 | nil=>intro es M F hl;cases M with
  | cons=>exact nomatch hl
  | nil=>cases es with
   | cons=>exact F.elim
   | nil=>intro ai Z s Y ak h I;exact O (sos h).symm<|evalPairs_nil ⟨[],⟨[],ai,Z,rfl,I,.refl,trivial⟩,trivial⟩
 | @cons k kk kp kes ks t ih=>intro es M F hl;cases M with
  | nil=>exact nomatch hl
  | cons x M=>cases es with
   | nil=>exact F.elim
   | cons e es=>
    intro ai Z s Y ak h I;rw[evs_cons]at h;refine evalPairs_cons<|wpAny_Constant_str (k:=kk) (pos:=kp) ?_;refine wpAny_bind<|seqE (s₁:= {s with toks:=s.toks+1}) (bv:=bvE x) (bv':=bvE x++bvEs M) h (toks_step .refl) inl_ (fun o e=>F.1.2 ai Z {s with toks:=s.toks+1} Y o e I) fun r fr₁ own₁ Z₁ s₁ v e₁ h I₁ S₁ S R=>wpAny_bind<|wpAny_standAt<|wpAny_pure ?_;refine hidG fun G1 g1=>?_;refine ex1 (R.frz I₁<|S₁.sub (bv':=bvE x++bvEs M) inl_) fun Z₂ Q=>?_;have I₂:=Q.1;have S₂:=Q.2.1;have R₂:=Q.2.2.1;have S₂':=(toks_step (tk:=s.toks+1) .refl).trans S₂;have ap:∀i∈plVars (frz r),i∉bvEs M:=by rw[plVars_frz];exact apart_of e₁ F.2.1
    rcases bnd_some h with⟨e',f,hm,rfl⟩ | ⟨rs,f,hm,h⟩
    .refine g1 ?_;refine wpAny_mono (ih F.2.2 (Nat.succ.inj hl) own₁ Z₂ s₁ fr₁ _ hm I₂) (fun vs s' p=>?_) fun e s' p=>p.up inr_ S₂';obtain⟨_,⟨_,_,_,q,_⟩,_⟩:=p;exact kre q
    .refine g1 ?_;refine wpAny_mono (ih F.2.2 (Nat.succ.inj hl) own₁ Z₂ s₁ fr₁ _ hm I₂) (fun vs s' p=>?_) fun e s' p=>p.elim;refine hidG fun G g=>?_;obtain⟨vs',⟨rs',own',Z',q,I',S',R'⟩,C⟩:=p;obtain rfl:=oki q;exact g<|O (sos h).symm<|⟨v::vs',⟨r::rs,own',Z',rfl,I',S₂'.trans<|S'.sub inr_,S'.rv I₂ ap R₂,R'.since S₂'.old⟩,strKind_is prog w k _,rfl,C⟩
theorem F2_len{P:Expr→Ex→Prop} :∀{es:az}{M:List Ex},F2 P es M→es.length=M.length:=by intro x1 x2 F;induction x1 generalizing x2 with
 | nil=>cases x2 with
  | nil=>exact rfl
  | cons x5 x6=>exact F.elim
 | cons x3 x4 ih=>cases x2 with
  | nil=>exact F.elim
  | cons x7 x8=>exact congrArg (· + 1)<|ih F.2.2
theorem repKV_zip{h:Heap} :∀{ks:ax}{vs:ay}{X:aB},KOk ks→RepAll h Z vs X→RepKV h Z (ks.zip vs) (dispL ks X):=by intro ks;induction ks with
 | nil=>intro _ _ _ _;exact .nil
 | cons k ks ih=>intro vs X ok R;cases R with
  | nil=>exact .nil
  | cons r R=>exact .cons (ok k<|.head _).1 (ok k<|.head _).2 r<|ih (fun x hx=>ok x<|.tail _ hx) R
theorem evs_vs:∀{M:List Ex}{Y fr' fr2:Fm}{rs:List Rv}{X:aB},M.all Ex.noPl=true→evs c M Y=some (.ok rs,fr')→rvDs fr2 rs=some X→rvVs rs=some X:=by intro M;induction M with
 | nil=>intro _ _ _ _ _ _ h hd;obtain⟨rfl,_⟩:=okp h;exact hd
 | cons x M ih=>
  intro Y fr' fr2 rs X hp h hd;rw[List.all_cons,Bool.and_eq_true]at hp;rw[evs_cons]at h;rcases bnd_some h with⟨_,_,_,q⟩ | ⟨r,f,hm,h⟩
  .cases q
  rcases bnd_some h with⟨_,_,_,q⟩ | ⟨rs',f',hm',h⟩
  .cases q
  obtain⟨rfl,_⟩:=okp h;rw[rvDs_c]at hd;refine O rvVs_c ?_;rcases ev_val hm with⟨d,e⟩ | ⟨p,_,rfl⟩
  .have hd:=(rvV_D e)▸hd;refine O e ?_;cases h2:rvDs fr2 rs' with
   | none=>rw[h2]at hd;exact nos hd
   | some ds'=>rw[h2]at hd;exact O (ih hp.2 hm' h2) hd
  .cases hp.1
theorem se_disp{kes:List (Option Expr)}{ks:ax}{vals:az}{M:List Ex}{dp:Pos}(R:Rn A c n)(hk:KS kes ks)(F:F2 (fun e x=>CE V e x∧SE A c y (eval e ao) x) vals M)(nd:ks.Nodup∧KOk ks)(hl:ks.length=M.length)(h15:ks≠ []∧ks.length≤15)(hp:M.all Ex.noPl=true) :
  SE A c y (eval (.Dict kes vals dp) ao) (.bi (.disp ks) M):=by
 intro ai Z s Y ak h I;rw[ev_bi]at h;have hml:(mkP ao dp kes vals).length=ks.length:=by exact O (mkP_shape ao dp vals hk).2<|O (F2_len F)<|O hl.symm<|Nat.min_self _
 have hne:mkP ao dp kes vals≠ []:=fun q=>h15.1 (List.eq_nil_of_length_eq_zero (by refine O hml.symm (O q ?_);rfl));refine wpAny_Dict_pairs (knd:=strKind prog w) (mkP_shape ao dp vals hk).1 hne (by refine O hml ?_; exact h15.2) ?_;have kp0:∀b o,s.heap.get? b=some o→(s.heap.push {cls:=.type "dict",data:=.dict #[]}).get? b=some o:=fun b o e=>pK _ b o e;have I0:Inv y ai Z (s.heap.push {cls:=.type "dict",data:=.dict #[]}) Y:=I.grow kp0;have S0:Step y (bvEs M) ai Z s ai Z {s with heap:=s.heap.push {cls:=.type "dict",data:=.dict #[]}}:=.grow (tk:=s.toks) kp0;have nD:=hN0 s.heap;have LD:Loose y ai Z s.heap (s.heap.push {cls:=.type "dict",data:=.dict #[]}) s.heap.objs.size:=⟨nD,(I.fresh nD).1,(I.fresh nD).2.1,(I.fresh nD).2.2,_,Heap.get?_push_size _ rfl⟩
 rcases bnd_some h with⟨e',f,hm,rfl⟩ | ⟨rs,f,hm,h⟩
 .refine wpAny_mono (pairs_s (po:=dp) hk F hl ai Z {s with heap:=s.heap.push {cls:=.type "dict",data:=.dict #[]}} Y _ hm I0) (fun prs s' p=>?_) fun e s' p=>p.up (fun j0_ h=>h) S0;obtain⟨_,⟨_,_,_,q,_⟩,_⟩:=p;exact kre q
 .refine wpAny_mono (pairs_s (po:=dp) hk F hl ai Z {s with heap:=s.heap.push {cls:=.type "dict",data:=.dict #[]}} Y _ hm I0) (fun prs s₁ p=>?_) fun e s' p=>p.elim;obtain⟨vs,⟨rs',own₁,Z₁,q,I₁,S₁,R'⟩,C⟩:=p;obtain rfl:=oki q;dsimp only at I₁;have U:=S₁.loose LD;refine⟨ks.zip vs,C,(let ⟨o,es,ep,e,r⟩:=Heap.DictOf.new (knd:=strKind prog w) s.heap;⟨o,es,ep,U.2 o e,r⟩),fun h' hD sb=>?_⟩;have hX:∀b,b=s.heap.objs.size→ ¬y.wr own₁ b∧ ¬y.F b∧ ¬Z₁ b:=fun b q=>by subst q;exact⟨U.1.2.1,U.1.2.2.1,U.1.2.2.2.1⟩
  have kp:∀b o, ¬b=s.heap.objs.size→s₁.heap.get? b=some o→h'.get? b=some o:=fun b o q e=>sb.extBut b o q e;have S₂:Step y (bvEs M) ai Z s own₁ Z₁ {s₁ with heap:=h',toks:=s₁.toks+prs.length}:=(S0.trans S₁).other (ag:=fun b=>b=s.heap.objs.size) (fun b q=>⟨q▸nD,(hX b q).1⟩) kp;cases hds:rvDs f rs with
  | none=>rw[hds]at h;exact nos h
  | some X=>
   have h:=hds▸h;have h:okV f (if ks.length=X.length then some (.ai<|.dict<|dispL ks X) else none)=some ak:=h;obtain⟨q,hq,rfl⟩:=okV_eq h;obtain⟨_,rfl⟩:=ifs hq;have hn:((ks.zip vs).map (·.1)).Nodup:=by exact O (List.map_fst_zip (by refine O hl<|O R'.length.symm<|O (evs_len hm) ?_;exact Nat.le_refl _)) nd.1
   rw[merged_nil_of_nodup _ hn]at hD;exact⟨_,own₁,Z₁,rfl,I₁.other hX kp,S₂,_,rfl,nD,U.1.2.1,U.1.2.2.1,U.1.2.2.2.1,.dict ⟨sys_ne<|R.big I,hD⟩ (by rw[List.length_zip];exact Nat.le_trans (Nat.min_le_left _ _)<|Nat.le_trans h15.2 (by decide))<|repKV_zip nd.2<|(R'.repAll<|evs_vs hp hm hds).mono (fun b o z e=>kp b o (fun q=>(hX b q).2.2 z) e) fun j0_ z=>z⟩
theorem se_dis1{k v:Expr}{x z:Ex}{dp:Pos}(R:Rn A c n)(Hk:SE A c y (eval k ao) x)(Hv:SE A c y (eval v ao) z)(hp:Ex.noPl x=true∧Ex.noPl z=true) :
  SE A c y (eval (.Dict [some k] [v] dp) ao) (.bi .dis1 [x,z]):=by
 intro ai Z s Y ak h I;have h:=evs_2 h;have noV:∀{x:Ex}{Y fr':Fm}{r:Rv},Ex.noPl x=true→ev c x Y=some (.ok r,fr')→ ∃d,rvV r=some d:=fun {x _ _ _} hx e=>(ev_val e).elim id fun⟨p,_,q⟩=>by rw[q]at hx;exact tf hx
 refine wpAny_Dict_pairs (knd:=strKind prog w) (pairs:=[(eval k ao,do let x ← eval v ao; standAt dp; pure x)]) rfl (by exact fun q=>by cases q) (by show 1≤15; decide) ?_;have kp0:∀b o,s.heap.get? b=some o→(s.heap.push {cls:=.type "dict",data:=.dict #[]}).get? b=some o:=fun b o e=>pK _ b o e;have I0:Inv y ai Z (s.heap.push {cls:=.type "dict",data:=.dict #[]}) Y:=I.grow kp0;have S0:Step y (bvEs [x,z]) ai Z s ai Z {s with heap:=s.heap.push {cls:=.type "dict",data:=.dict #[]}}:=.grow (tk:=s.toks) kp0;have nD:=hN0 s.heap;have LD:Loose y ai Z s.heap (s.heap.push {cls:=.type "dict",data:=.dict #[]}) s.heap.objs.size:=⟨nD,(I.fresh nD).1,(I.fresh nD).2.1,(I.fresh nD).2.2,_,Heap.get?_push_size _ rfl⟩
 refine evalPairs_cons (seqE (s₁:= {s with heap:=s.heap.push {cls:=.type "dict",data:=.dict #[]}}) (bv:=bvE x) (bv':=bvEs [x,z]) h S0 inl_ (fun o e=>Hk ai Z _ Y o e I0) fun r fr₁ own₁ Z₁ s₁ kv e₁ h I₁ S₁ S R1=>?_);refine wpAny_bind (seqE (bv:=bvE z) (bv':=bvEs [x,z]) h S (fun i hi=>inr_ i (inl_ i hi)) (fun o e=>Hv own₁ Z₁ s₁ fr₁ o e I₁) fun r' fr₂ own₂ Z₂ s₂ vv e₂ h I₂ S₂ S' R2=>wpAny_bind (wpAny_standAt (wpAny_pure ?_)));refine ex1 (noV hp.1 e₁) fun dk ek=>ex1 (noV hp.2 e₂) fun dv ev'=>?_;refine ex1 (mo_s h) fun X u=>ex2 (rvDs_2 u.1) fun d e u'=>?_;obtain⟨q,hq,rfl⟩:=okV_eq (u'.2.2▸u.2);have h1:dk=d:=sos ((rvV_D (Y:=fr₂) ek).symm.trans u'.1);have h2:dv=e:=sos ((rvV_D (Y:=fr₂) ev').symm.trans u'.2.1);subst h1;subst h2;cases dk with
 | str ks=>
  obtain rfl:=sos hq;obtain ⟨t,rfl,o1,o2⟩:=(((S₂.rv I₁ (rv_apart ek) R1).dat I₂ u'.1)).str;obtain ⟨Z₃,I₃,S₃,R₃⟩:=R2.freeze I₂ S₂ ev';have T:Step y (bvEs [x,z]) ai Z {s with heap:=s.heap.push {cls:=.type "dict",data:=.dict #[]}} own₂ Z₃ s₂:=(S₁.sub inl_).trans (S₃.sub fun i hi=>inr_ i (inl_ i hi));have U:=T.loose LD;refine evalPairs_nil ⟨[(ks,vv)],⟨strKind_is prog w ks t,rfl,trivial⟩,(let ⟨o,es,ep,e,r⟩:=Heap.DictOf.new (knd:=strKind prog w) s.heap; ⟨o,es,ep,U.2 o e,r⟩),fun h' hD sb=>?_⟩;have hX:∀b,b=s.heap.objs.size→ ¬y.wr own₂ b∧ ¬y.F b∧ ¬Z₃ b:=fun b q=>by subst q; exact ⟨U.1.2.1,U.1.2.2.1,U.1.2.2.2.1⟩
  have kp:∀b o, ¬b=s.heap.objs.size→s₂.heap.get? b=some o→h'.get? b=some o:=fun b o q e=>sb.extBut b o q e;have S₄:Step y (bvEs [x,z]) ai Z s own₂ Z₃ {s₂ with heap:=h',toks:=s₂.toks+1}:=(S0.trans T).other (ag:=fun b=>b=s.heap.objs.size) (fun b q=>⟨q▸nD,(hX b q).1⟩) kp;rw[merged_nil_of_nodup _ (by exact List.nodup_cons.mpr ⟨List.not_mem_nil,List.nodup_nil⟩)]at hD;exact⟨_,own₂,Z₃,rfl,I₃.other hX kp,S₄,_,rfl,nD,U.1.2.1,U.1.2.2.1,U.1.2.2.2.1,.dict ⟨sys_ne<|R.big I,hD⟩ (by show 1≤Sz;decide)<|.cons o1 o2 (R₃.mono (fun b o z e=>kp b o (fun q=>(hX b q).2.2 z) e) fun j0_ z=>z) .nil⟩
 | _=>exact nos hq
end
end Mv
end
section
set_option backward.match.sparseCases false
namespace Mv
open PySem PyProof.Rows
variable [Hp]
section
variable {A:Around}{c:Cfg}{n:Nat}{ao:Env}{V:Sc}{y:Lay}
 {bv bv':aw} {ai own₁:Addr→Option Nat} {Z Z₁:Addr→Prop} {s s₁:Shared} {Y fr₁:Fm}
theorem F2.one{P:Expr→Ex→Prop}{a:Expr}{M:List Ex}{ah:List Ex→Prop}(F:F2 P [a] M)(k:∀x,F2 P [a] [x]→ah [x]) :ah M:=by
 rcases M with _ | ⟨x,_ | _⟩
 .exact F.elim
 .exact k x F
 .exact F.2.2.elim
theorem F2.two{P:Expr→Ex→Prop}{a b:Expr}{M:List Ex}{ah:List Ex→Prop}(F:F2 P [a,b] M)(k:∀x z,F2 P [a,b] [x,z]→ah [x,z]) :ah M:=by
 rcases M with _ | ⟨x,_ | ⟨z,_ | _⟩⟩
 .exact F.elim
 .exact F.2.2.elim
 .exact k x z F
 .exact F.2.2.2.2.elim
theorem se_bx{e:Expr}{b:Bi}{es:az}{M:List Ex}(R:Rn A c n)(en:EnvOk A V ao y)(h:BX V e b es)(F:F2 (fun e x=>CE V e x∧SE A c y (eval e ao) x) es M) :SE A c y (eval e ao) (.bi b M):=
 BX.casesOn (motive:=fun e b es j0_=>F2 (fun e x=>CE V e x∧SE A c y (eval e ao) x) es M→SE A c y (eval e ao) (.bi b M)) h
  (fun ha hk hl F=>F2.two (ah:=fun M=>SE A c y _<|.bi .count M) F fun j0_ j1_ F=>se_m1 ha (F.2.2.1.1.sx hk).quiet hl F mop_count)
  (fun hg hg' F=>F2.two (ah:=fun M=>SE A c y _<|.bi .dzip M) F fun j0_ j1_ F=>se_dzip R en hg hg' F)
  (fun F=>by cases M with
   | nil=>exact se_dict0 R
   | cons=>exact F.elim) F
end
end Mv
end
section
set_option backward.match.sparseCases false
namespace Mv
open PySem PyProof.Rows
variable [Hp]
section
variable {A:Around}{E:Value→Shared→Prop}{ao:Env}{V:Sc}{y:Lay}
 {bv bv':aw} {ai own' own₁:Addr→Option Nat} {Z Z' Z₁:Addr→Prop} {s s' s₁:Shared} {Y fr₁:Fm} {h h':Heap}
structure Put(y:Lay)(i:Nat)(l:Loc)(v:Value)(h h':Heap) :Prop where
 keep:∀a o,a≠l.addr→h.get? a=some o→h'.get? a=some o
 live:∃o,h'.get? l.addr=some o
 rd:rdL h' l v
 oth:∀j k w,j≠i→y.loc j=some k→rdL h k w→rdL h' k w
 ok:∀j k,y.loc j=some k→okL h' k
 ns:∃m,h'.Ns y.L m
 si:∀p,y.slf=some p→y.si≠i
theorem Put.fz(p:Put y i l v s.heap h')(I:Inv y ai Z s.heap Y)(hl:y.loc i=some l){d:D}(R:Rep s.heap Z v d) :Inv y ai Z h' (Y.set i<|.fz d):=I.setFz hl p.keep p.live p.rd p.oth p.ok p.ns p.si R
theorem Put.step{i:Nat}{l:Loc}{v:Value}{tk:Nat}(p:Put y i l v s.heap h')(hl:y.loc i=some l)(I:Inv y ai Z s.heap Y) :Step y [i] ai Z s ai Z {s with heap:=h',toks:=tk} where
 sh:=⟨_,_,rfl⟩
 ext:=by
  have ne:∀a, ¬y.wr ai a→a≠l.addr:=fun a nw q=>nw<|.inr<|.inr ⟨i,l,hl,q.symm⟩;refine⟨fun a o e nw nf=>p.keep a o (ne a nw) e,fun a o e=>?_,fun a o f e=>⟨o.slots,p.keep a o (fun q=>I.wf.nf i l hl<|q▸f) e⟩⟩;by_cases q:a=l.addr
  .exact q▸p.live
  .exact⟨o,p.keep a o q e⟩
 zm:=fun j0_ z=>z
 zn:=fun j0_ z=>.inl z
 on:=fun j0_ j1_ e=>.inl e
 bind:=fun j k w n hk r=>p.oth j k w (fun q=>n (by refine O q ?_;exact List.mem_singleton.mpr rfl)) hk r
theorem Put.owned{i:Nat}{l:Loc}{a:Addr}(p:Put y i l (.ref a) s.heap h')(I:Inv y ai Z s.heap Y)(hl:y.loc i=some l){d:D}(nw:¬y.wr ai a)(nf:¬y.F a)(nz:¬Z a)(W:OwnAt s.heap Z a d) :Inv y (addO ai a i) Z h' (Y.set i<|.ai d):=
 I.setOwn hl p.keep p.rd p.oth p.ok p.ns p.si nw nf nz W.live ⟨a,rfl,rfl,W⟩
theorem store_put{x:Str}{i:Nat}{l:Loc}{v:Value}{Q:Unit→Shared→Prop}(en:EnvOk A V ao y)(hv:V.vars.lookup x=some i)(hf:ao.kindOf x≠some .free)(hl:y.loc i=some l)(I:Inv y ai Z s.heap Y)
  (h:∀h' tk,Put y i l v s.heap h'→Q () {s with heap:=h',toks:=tk}) :wpAny (model prog w) A (storeName ao x v) Q E s:=by
 refine hidG fun G3 g3=>?_;rcases en.var x i hv with⟨hk,e⟩ | ⟨hk | ⟨hk,_⟩,c,hc,e⟩
 .refine g3 ?_;rw[hl]at e;obtain rfl:=sos e;obtain⟨m,hn⟩:=I.ok i _ hl;refine wpAny_storeName_local hk hn (fun h' hn' hs=>h h' _ ?_) (by refine O en.kind ?_;rfl);refine⟨fun a o q e=>hs.extBut a o q e,let ⟨o,_,_,e,_⟩:=hn';⟨o,e⟩,⟨_,hn',by simp⟩,fun j k w hj hk' r=>?_,fun j k hk'=>?_,?_,en.nsi x i hv⟩
  .by_cases q:k.addr=ao.locals
   .refine hidG fun G4 g4=>?_;obtain⟨x',e1,hxz⟩:=(I.wf.apart j i k _ hk' hl hj q).dict';subst e1;refine ex1 r fun m' r=>?_;have em:m' x'=m x':=by refine hidG fun G1 g1=>?_;refine ex3 r.1 fun o es ep q0=>?_;have ho:=q0.1;have hd:=q0.2.1;have hk1:=q0.2.2.1;have hf1:=q0.2.2.2;refine hidG fun G2 g2=>?_;obtain⟨o',es',ep',ho',hd',hk2,hf2⟩:=hn;rw[ho]at ho';obtain rfl:=sos ho';have hd':=hd▸hd';cases hd';refine g2 ?_;refine g1 ?_;rw[← hf1,hf2]
    exact g4<|⟨_,hn',by show(if x'=x then some v else m x')=some w;exact O (if_neg hxz)<|O em.symm<|O r.2 rfl⟩
   .exact r.keeps fun o e=>hs.extBut _ o q e
  .by_cases q:k.addr=ao.locals
   .cases k with
    | dict a z=>cases q;exact⟨_,hn'⟩
    | cell a=>
     refine hidG fun G5 g5=>?_;by_cases hij:j=i
     .refine g5 ?_;subst hij;have hk':=hl▸hk';cases hk'
     .refine g5 ?_;refine ex1 ((I.wf.apart j i _ _ hk' hl hij q).dict') fun j0_ J=>?_;have u:=J.1;cases u
    | attr a ns z=>
     by_cases hij:j=i
     .subst hij;have hk':=hl▸hk';cases hk'
     .refine ex1 ((I.wf.apart j i _ _ hk' hl hij q).dict') fun j0_ U=>?_;have u:=U.1;cases u
   .exact(I.ok j k hk').keeps fun o e=>hs.extBut _ o q e
  .by_cases q:y.L=ao.locals
   .exact⟨_,q▸hn'⟩
   .exact ex1 I.nsL fun m hm=>(⟨m,hm.sameBut hs q⟩)
 .refine g3 ?_;rw[hl]at e;obtain rfl:=sos e;obtain⟨v₀,hv₀⟩:=I.ok i _ hl;refine wpAny_storeName_cell en.kind hk hc hv₀ fun h' hc' hs=>?_;have P:Put y i (.cell c) v s.heap h':=by
   refine⟨fun a o q e=>hs.extBut a o q e,let ⟨o,e,_⟩:=hc';⟨o,e⟩,hc',fun j k w hj hk' r=>?_,fun j k hk'=>?_,?_,en.nsi x i hv⟩
   .by_cases q:k.addr=c
    .exact(I.wf.apart j i k _ hk' hl hj q).noCell
    .exact r.keeps fun o e=>hs.extBut _ o q e
   .by_cases q:k.addr=c
    .refine hidG fun G g=>?_;by_cases hij:j=i
     .refine g ?_;subst hij;rw[hl]at hk';exact O (sos hk').symm<|⟨_,hc'⟩
     .exact g ((I.wf.apart j i _ _ hk' hl hij q).noCell)
    .exact(I.ok j k hk').keeps fun o e=>hs.extBut _ o q e
   .obtain⟨m,hm⟩:=I.nsL;exact⟨m,hm.sameBut hs fun q=>I.wf.cl i c hl q.symm⟩
  exact h h' s.toks P
 .exact g3 (absurd hk hf)
noncomputable def Lay.puts(y:Lay)(C:Addr)(i:Nat)(vs:ax) :Lay:= {y with loc:=fun j=>if i≤j then(vs[j - i]?).map (Loc.dict C) else y.loc j}
section
variable {C:Addr}{i j k:Nat}{vs:ax}{v:Str}{l:Loc}{a:Addr}
theorem puts_at(h:vs[k]?=some v) :(y.puts C i vs).loc (i+k)=some (.dict C v):=by
 show(if i≤i+k then(vs[i+k - i]?).map (Loc.dict C) else _)=_
 refine O (if_pos<|Nat.le_add_right i k) ?_;rw[Nat.add_sub_cancel_left];refine O h ?_;rfl
theorem puts_get(hi:∀j l,y.loc j=some l→j<i)(h:y.loc j=some l) :(y.puts C i vs).loc j=some l:=(if_neg<|Nat.not_le.mpr<|hi j l h).trans h
theorem puts_cases(h:(y.puts C i vs).loc j=some l) :(∃v,i≤j∧vs[j - i]?=some v∧l = .dict C v)∨(j<i∧y.loc j=some l):=by
 have h:(if i≤j then(vs[j - i]?).map (Loc.dict C) else y.loc j)=some l:=h;by_cases q:i≤j
 .have h:=(if_pos q)▸h;cases e:vs[j - i]? with
  | none=>have h:=e▸h;exact nos h
  | some v=>rw[e]at h;exact .inl ⟨v,q,rfl,(Option.some.inj h).symm⟩
 .have h:=(if_neg q)▸h;exact .inr ⟨Nat.not_le.mp q,h⟩
theorem put_wr(h:(y.puts C i vs).wr ai a) :y.wr ai a∨a=C:=by
 rcases h with h | h | ⟨j,k,hk,rfl⟩
 .exact .inl (.inl h)
 .exact .inl (.inr<|.inl h)
 .rcases puts_cases hk with⟨_,_,_,rfl⟩ | ⟨_,hk⟩
  .exact .inr rfl
  .exact .inl (.inr<|.inr ⟨j,k,hk,rfl⟩)
theorem wr_put(hi:∀j l,y.loc j=some l→j<i)(h:y.wr ai a) :(y.puts C i vs).wr ai a:=by
 rcases h with h | h | ⟨j,k,hk,rfl⟩
 .exact .inl h
 .exact .inr (.inl h)
 .exact .inr (.inr ⟨j,k,puts_get hi hk,rfl⟩)
theorem Inv.put{m:Str→Option Value}(I:Inv y ai Z h Y)(hi:∀j l,y.loc j=some l→j<i)(nd:vs.Nodup)(nw:¬y.wr ai C)(nf:¬y.F C)(nz:¬Z C)(hn:h.Ns C m) :Inv (y.puts C i vs) ai Z h Y:=by
 have nC:∀j k,y.loc j=some k→k.addr≠C:=fun j k e q=>nw<|.inr<|.inr ⟨j,k,e,q⟩;refine⟨⟨fun j j' k k' hk hk' hne hq=>?_,fun j k hk=>?_,I.wf.nL,fun j a hk=>?_,fun j a ns x hk=>?_⟩,I.base,I.zb,I.zo,fun j k hk=>?_,fun j k hk=>?_,I.zL,I.oL,I.zF,I.oF,I.zlv,I.olv,I.flv,fun j k hk=>?_,I.nsL,fun p e=>⟨(I.sf p e).z,(I.sf p e).ob,let ⟨l,hl,r⟩:=(I.sf p e).rd;⟨l,puts_get hi hl,r⟩⟩,fun j sl e n=>?_⟩
 .rcases puts_cases hk with⟨v,l1,e1,rfl⟩ | ⟨hj,hk⟩ <;> rcases puts_cases hk' with⟨v',l2,e2,rfl⟩ | ⟨hj',hk'⟩
  .refine .dict C v v' rfl rfl fun q=>hne ?_;subst q;have:=(List.getElem_inj (h₀:=(List.getElem?_eq_some_iff.mp e1).1) (h₁:=(List.getElem?_eq_some_iff.mp e2).1) nd).mp<|(List.getElem?_eq_some_iff.mp e1).2.trans (List.getElem?_eq_some_iff.mp e2).2.symm;exact(Le [j,j',j - i,j' - i,i] (.e .x .y) [Gp .z .u,Gq (.a .z<|.v 4) .x,Gp (.a .u<|.v 4) .y] rfl this (Nat.sub_add_cancel (n:=j) (m:=i) l1)<|Nat.sub_add_cancel (n:=j') (m:=i) l2)
  .exact absurd hq.symm (nC _ _ hk')
  .exact absurd hq (nC _ _ (by assumption))
  .exact I.wf.apart j j' k k' hk hk' hne hq
 .rcases puts_cases hk with⟨_,_,_,rfl⟩ | ⟨hj,hk⟩
  .exact nf
  .exact I.wf.nf j k hk
 .rcases puts_cases hk with⟨_,_,_,q⟩ | ⟨hj,hk⟩
  .cases q
  .exact I.wf.cl j a hk
 .rcases puts_cases hk with⟨_,_,_,q⟩ | ⟨hj,hk⟩
  .cases q
  .exact I.wf.al j a ns x hk
 .rcases puts_cases hk with⟨_,_,_,rfl⟩ | ⟨hj,hk⟩
  .exact nz
  .exact I.zl j k hk
 .rcases puts_cases hk with⟨_,_,_,rfl⟩ | ⟨hj,hk⟩
  .show ai C=none
   cases q:ai C with
   | none=>rfl
   | some z=>exact absurd (.inl (by refine O q ?_;exact fun n=>by cases n)) nw
  .exact I.ol j k hk
 .rcases puts_cases hk with⟨_,_,_,rfl⟩ | ⟨hj,hk⟩
  .exact⟨m,hn⟩
  .exact I.ok j k hk
 .obtain⟨l,v,hl,r1,r⟩:=I.at' j sl e n;exact⟨l,v,puts_get hi hl,r1,r⟩
theorem Inv.unput(I:Inv (y.puts C i vs) ai Z h Y)(wf:y.Wf)(hi:∀j l,y.loc j=some l→j<i)(hs:∀p,y.slf=some p→ ∃l,y.loc y.si=some l)(hf:∀j,i≤j→j<i+vs.length→ ∀sl,Y[j]?=some sl→sl = .no) :Inv y ai Z h Y where
 wf:=wf
 base:=I.base
 zb:=I.zb
 zo:=I.zo
 zl:=fun j k hk=>I.zl j k<|puts_get hi hk
 ol:=fun j k hk=>I.ol j k<|puts_get hi hk
 zL:=I.zL
 oL:=I.oL
 zF:=I.zF
 oF:=I.oF
 zlv:=I.zlv
 olv:=I.olv
 flv:=I.flv
 ok:=fun j k hk=>I.ok j k<|puts_get hi hk
 nsL:=I.nsL
 sf:=fun p e=>⟨(I.sf p e).z,(I.sf p e).ob,by refine hidG fun G1 g1=>?_;refine ex1 (hs p e) fun l hl=>?_;obtain⟨l',hl',r⟩:=(I.sf p e).rd;have hl':(y.puts C i vs).loc y.si=some l':=hl';rw[puts_get hi hl]at hl';obtain rfl:=sos hl';refine g1 ?_;exact⟨l,hl,r⟩⟩
 at':=fun j sl e n=>by
  refine hidG fun G g=>?_;obtain⟨k,v,hk,r1,r⟩:=I.at' j sl e n;rcases puts_cases hk with⟨_,hj,q,rfl⟩ | ⟨hj,hk⟩
  .exact g (absurd (hf j hj (Ln [j,i,vs.length,j - i] (.w (.p 1 .x)<|.a .y .z) [Gl (.p 1 .u) .z,Gf (.a .u .y) .x] rfl (List.getElem?_eq_some_iff.mp q).1<|Nat.sub_add_cancel (n:=j) (m:=i) hj) sl e) n)
  .exact g (⟨k,v,hk,r1,r⟩)
theorem Step.put(S:Step y bv ai Z s own' Z' s')(hi:∀j l,y.loc j=some l→j<i)(hC:s.heap.get? C=none) :Step (y.puts C i vs) bv ai Z s own' Z' s' where
 sh:=S.sh
 ext:=⟨fun a o e nw nf=>S.ext.keep a o e (fun q=>nw<|wr_put hi q) nf,S.ext.live,S.ext.fram⟩
 zm:=S.zm
 zn:=S.zn
 on:=S.on
 bind:=fun j k v n hk r=>by
  rcases puts_cases hk with⟨_,_,_,rfl⟩ | ⟨hj,hk⟩
  .obtain⟨m,⟨o,_,_,e,_⟩,_⟩:=r;rw[hC]at e;exact nos e
  .exact S.bind j k v n hk r
theorem Step.unput(S:Step (y.puts C i vs) bv ai Z s own' Z' s')(hi:∀j l,y.loc j=some l→j<i)(hC:s.heap.get? C=none) :Step y bv ai Z s own' Z' s' where
 sh:=S.sh
 ext:=⟨fun a o e nw nf=>S.ext.keep a o e (fun q=>(put_wr q).elim nw fun q=>by rw[q,hC]at e;exact nos e) nf,S.ext.live,S.ext.fram⟩
 zm:=S.zm
 zn:=S.zn
 on:=S.on
 bind:=fun j k v n hk r=>S.bind j k v n (puts_get hi hk) r
end
end
noncomputable def clF(ao:Env) :List (Str×NameKind)→List (Str×Addr)→List (Str×Addr)
 | [],am=>am
 | (n,k)::r,am=>if k == .free then clF ao r ((n,(ao.cells.lookup n).getD 0)::am) else clF ao r am
theorem clF_c{ao:Env}{x:Str×NameKind}{r:List (Str×NameKind)}{am:List (Str×Addr)} :clF ao (x::r) am=if x.2 == .free then clF ao r ((x.1,(ao.cells.lookup x.1).getD 0)::am) else clF ao r am:=rfl
theorem closureFor_some{scope:Scope}{ao:Env}(h:∀x∈scope.names,x.2 = .free→ ∃c,ao.cells.lookup x.1=some c) :closureFor scope ao=pure (clF ao scope.names []):=by
 simp only[closureFor]
 suffices H:∀(l:List (Str×NameKind))(am:List (Str×Addr)),(∀x∈l,x.2 = .free→ ∃c,ao.cells.lookup x.1=some c)→(forIn l am fun x r=>match x with
   | (name,kind)=>if (kind==NameKind.free)=true then do let a ← cellOf ao name;pure (ForInStep.yield ((name,a)::r)) else pure (ForInStep.yield r))=(pure (clF ao l am) :Sem (List<|Str×Addr)) by
  refine O (H _ _ h) ?_;rfl
 intro l;induction l with
 | nil=>intro am _;rfl
 | cons x l ih=>intro am hx;rw[List.forIn_cons];cases hk:x.2==NameKind.free with
  | false=>
   dsimp only;refine O hk<|O (if_neg Bool.false_ne_true) ?_;refine Eq.trans ?_<|(ih am fun x hm=>hx x<|List.mem_cons_of_mem _ hm).trans ?_
   .rfl
   .rw[clF_c,hk];rfl
  | true=>
   dsimp only;refine O hk<|O (if_pos rfl) ?_;refine ex1 (hx (x.1,x.2) List.mem_cons_self (by simpa using hk)) fun c hc=>?_;have:cellOf ao x.1=pure c:=by unfold cellOf;exact O hc rfl
   refine O this ?_;refine Eq.trans ?_<|(ih ((x.1,c)::am) fun x hm=>hx x<|List.mem_cons_of_mem _ hm).trans ?_
   .rfl
   .rw[clF_c,hk,hc];rfl
set_option tactic.hygienic true in
theorem clF_ok{ao:Env} :∀(l:List (Str×NameKind))(am:List (Str×Addr)),(∀x∈l,x.2 = .free→ ∃c,ao.cells.lookup x.1=some c)→(∀p∈am,ao.cells.lookup p.1=some p.2)→ ∀p∈clF ao l am,ao.cells.lookup p.1=some p.2:=by intro l am hx h;induction l generalizing am h with
 | nil=>exact h
 | cons p0 l ih=>
  have hx':∀x∈l,x.2 = .free→ ∃c,ao.cells.lookup x.1=some c:=fun x hm=>hx x<|List.mem_cons_of_mem _ hm;rw[clF_c];split
  .rename_i hk;refine ih _ hx' fun p hp=>?_;rcases List.mem_cons.mp hp with rfl | hp
   .refine ex1 (hx (p0.1,p0.2) List.mem_cons_self (by simpa using hk)) fun c hc=>?_;simp[hc]
   .exact h p hp
  .exact ih am hx' h
theorem clF_acc{ao:Env} :∀(l:List (Str×NameKind))(am:List (Str×Addr)), ∀p∈am,p∈clF ao l am:=by intro l am p h;induction l generalizing am p h with
 | nil=>exact h
 | cons p0 l ih=>
  rw[clF_c];split
  .exact ih _ p (List.mem_cons_of_mem _ h)
  .exact ih _ p h
theorem clF_mem{ao:Env} :∀(l:List (Str×NameKind))(am:List (Str×Addr))(x:Str×NameKind),x∈l→x.2 = .free→ ∃c,(x.1,c)∈clF ao l am:=by intro l am x h hx;induction l generalizing am x hx with
 | nil=>cases h
 | cons p0 l ih=>
  obtain⟨n,k⟩:=p0;rcases List.mem_cons.mp h with rfl | h
  .have hk:k = .free:=hx;subst hk;exact⟨(ao.cells.lookup n).getD 0,by rw[clF_c];exact clF_acc l _ _ List.mem_cons_self⟩
  .rw[clF_c];split
   .exact ih _ x h hx
   .exact ih _ x h hx
theorem lookup_of_mem{α:Type} :∀{l:List (Str×α)}{x:Str}{c:α},(x,c)∈l→ ∃c',l.lookup x=some c'∧(x,c')∈l:=by intro l x c h;induction l generalizing x c with
 | nil=>cases h
 | cons p0 l ih=>refine O List.lookup_cons ?_;cases hx:x==p0.1 with
  | true=>simp only[beq_iff_eq]at hx;subst hx;exact⟨p0.2,rfl,List.mem_cons_self⟩
  | false=>
   rcases List.mem_cons.mp h with q | h
   .cases q;simp at hx
   .exact ex1 (ih h) fun c' Q=>(⟨c',Q.1,List.mem_cons_of_mem _ Q.2⟩)
theorem mem_of_lookup{α:Type} :∀{l:List (Str×α)}{x:Str}{c:α},l.lookup x=some c→(x,c)∈l:=by intro l x c h;induction l generalizing x c with
 | nil=>exact nos h
 | cons p0 l ih=>obtain⟨n,a⟩:=p0;rw[List.lookup_cons]at h;cases hx:x==n with
  | true=>rw[hx]at h;refine O (sos h) ?_;simp only[beq_iff_eq]at hx;subst hx;exact List.mem_cons_self
  | false=>have h:=hx▸h;exact List.mem_cons_of_mem _<|ih h
theorem lookup_relabel_other{ao:Env}{k:NameKind}(hk:k≠ .free) :∀{names:List (Str×NameKind)}{x:Str},names.lookup x=some k→
  (names.map fun(n,k)=>if (k==NameKind.free&&ao.scope.kind == .function&&ao.kindOf n==some .cell) then(n,NameKind.cell) else(n,k)).lookup x=some k
 | [],_,h=>by simp at h
 | (n,k')::r,x,h=>by
  show List.lookup x ((if (k'==NameKind.free&&ao.scope.kind == .function&&ao.kindOf n==some .cell)=true then(n,NameKind.cell) else(n,k'))::_)=_
  cases hx:x==n with
  | true=>
   simp only[List.lookup_cons,hx]at h;cases h;have:(k==NameKind.free)=false:=by simpa using hk
   simp[List.lookup_cons,hx,this]
  | false=>
   simp only[List.lookup_cons,hx]at h;by_cases hc:(k'==NameKind.free&&ao.scope.kind == .function&&ao.kindOf n==some .cell)=true
   .rw[if_pos hc];simp only[List.lookup_cons,hx];exact(@lookup_relabel_other ao k hk r x) h
   .rw[if_neg hc];simp only[List.lookup_cons,hx];exact(@lookup_relabel_other ao k hk r x) h
theorem lookup_relabel_free{ao:Env} :∀{names:List (Str×NameKind)}{x:Str},names.lookup x=some .free→
  (names.map fun(n,k)=>if (k==NameKind.free&&ao.scope.kind == .function&&ao.kindOf n==some .cell) then(n,NameKind.cell) else(n,k)).lookup x=some .free∨
  (names.map fun(n,k)=>if (k==NameKind.free&&ao.scope.kind == .function&&ao.kindOf n==some .cell) then(n,NameKind.cell) else(n,k)).lookup x=some .cell
 | [],_,h=>by simp at h
 | (n,k')::r,x,h=>by refine O List.map_cons ?_;cases hx:x==n with
  | true=>
   simp only[List.lookup_cons,hx]at h;refine O (sos h) ?_;by_cases hc:(NameKind.free==NameKind.free&&ao.scope.kind == .function&&ao.kindOf n==some .cell)=true
   .right;show List.lookup x ((if _ then _ else _)::_)=_;refine O (if_pos hc) ?_;simp only[List.lookup_cons,hx]
   .left;show List.lookup x ((if _ then _ else _)::_)=_;refine O (if_neg hc) ?_;simp only[List.lookup_cons,hx]
  | false=>
   simp only[List.lookup_cons,hx]at h;show List.lookup x ((if _ then _ else _)::_)=_∨List.lookup x ((if _ then _ else _)::_)=_
   by_cases hc:(k'==NameKind.free&&ao.scope.kind == .function&&ao.kindOf n==some .cell)=true
   .refine O (if_pos hc) ?_;simp only[List.lookup_cons,hx];exact(@lookup_relabel_free ao r x) h
   .refine O (if_neg hc) ?_;simp only[List.lookup_cons,hx];exact(@lookup_relabel_free ao r x) h
theorem lookup_filter{p:Str×Nat→Bool} :∀{l:List (Str×Nat)}{x:Str}{i:Nat},(∀a b c,p (a,b)=p (a,c))→(l.filter p).lookup x=some i→l.lookup x=some i∧p (x,i)=true:=by intro l x i hp h;induction l generalizing x i hp with
 | nil=>exact nos h
 | cons p0 l ih=>
  obtain⟨n,j⟩:=p0;refine O List.lookup_cons ?_;by_cases q:p (n,j)=true
  .have h:=(List.filter_cons_of_pos q)▸h;rw[List.lookup_cons]at h;cases hx:x==n with
   | true=>rw[hx]at h;refine O (sos h).symm ?_;simp only[beq_iff_eq]at hx;subst hx;exact⟨rfl,q⟩
   | false=>rw[hx]at h;exact ih hp h
  .rw[List.filter_cons_of_neg q]at h;obtain⟨h1,h2⟩:=ih hp h;cases hx:x==n with
   | true=>simp only[beq_iff_eq]at hx;subst hx;have h2:=(hp x i j)▸h2;exact absurd h2 q
   | false=>exact⟨h1,h2⟩
theorem lookup_app{l r:List (Str×Nat)}{x:Str}{i:Nat} :(l++r).lookup x=some i→l.lookup x=some i∨r.lookup x=some i:=by induction l with
 | nil=>exact .inr
 | cons p l ih=>intro h;rw[List.cons_append,List.lookup_cons]at h;refine O List.lookup_cons ?_;cases q:x==p.1 with
  | true=>rw[q]at h;exact .inl h
  | false=>rw[q]at h;exact ih h
theorem lookup_app'{l r:List (Str×Nat)}{x:Str}{i:Nat} :l.lookup x=some i→(l++r).lookup x=some i:=by induction l with
 | nil=>intro h;exact nos h
 | cons p l ih=>intro h;rw[List.lookup_cons]at h;refine O List.cons_append<|O List.lookup_cons ?_;cases q:x==p.1 with
  | true=>rw[q]at h;exact h
  | false=>rw[q]at h;exact ih h
theorem zipIdx_lk{x:Str} :∀{vs:ax}{i k:Nat},vs.Nodup→vs[k]?=some x→(vs.zipIdx i).lookup x=some (i+k):=by intro vs i k nd h;induction vs generalizing i k with
 | nil=>exact nos h
 | cons v vs ih=>cases k with
  | zero=>refine O (sos h) ?_;refine O List.zipIdx_cons ?_;refine O List.lookup_cons ?_;rw[beq_self_eq_true];rfl
  | succ k=>rw[List.nodup_cons]at nd;refine O List.zipIdx_cons ?_;refine O List.lookup_cons ?_;refine O (beq_eq_false_iff_ne.mpr fun e=>nd.1 (e▸List.mem_of_getElem? (i:=k) h) :(x==v)=false) ?_;rw[Nat.add_comm k 1,← Nat.add_assoc];exact ih nd.2 h
theorem lookup_zipIdx{x:Str}{j:Nat} :∀{vs:ax}{i:Nat},(vs.zipIdx i).lookup x=some j→ ∃k,j=i+k∧vs[k]?=some x:=by intro vs i h;induction vs generalizing i with
 | nil=>exact nos h
 | cons v vs ih=>rw[List.zipIdx_cons,List.lookup_cons]at h;cases q:x==v with
  | true=>rw[q]at h;exact O (sos h)<|⟨0,rfl,by refine O (beq_iff_eq.mp q) ?_;rfl⟩
  | false=>rw[q]at h;exact ex1 (ih h) fun k Q=>(⟨k+1,by exact(Le [j,i,k] (.e .x<|.a .y<|.p 1 .z) [Gp .x<|.a (.p 1 .y) .z] rfl Q.1),Q.2⟩)
theorem comp_env{scope:Scope}{V:Sc}{ao:Env}{y:Lay}{vs:ax}{i:Nat}{C:Addr}(en:EnvOk A V ao y)(ok:CompOk scope V vs)(hi:V.hi≤i) :
  closureFor scope ao=pure (clF ao scope.names [])∧EnvOk A (compSc scope V vs i) (compEnvC scope (clF ao scope.names []) C ao) (y.puts C i vs):=by
 have cells:∀x∈scope.names,x.2 = .free→ ∃c,ao.cells.lookup x.1=some c:=fun x hx hf=>by
  refine hidG fun G1 g1=>?_;obtain⟨h1,h0,⟨j,hj⟩,h3⟩:=ok.free x hx hf;rcases en.var x.1 j hj with⟨hk,_⟩ | ⟨_,c,hc,_⟩
  .refine g1 ?_;rcases en.cf x.1 h3 with q | q <;> (have q:=hk▸q;cases q)
  .refine g1 ?_;exact⟨c,hc⟩
 refine⟨closureFor_some cells,⟨en.stk,fun j l hl=>?_,ok.kind,en.glob,en.blt,en.frame,en.top,fun x j hx=>?_,fun x hx=>?_,fun x hx=>?_,fun q=>absurd rfl q,fun x j hx p e=>?_,fun p e=>let ⟨l,hl⟩:=en.slo p e;⟨l,puts_get (fun j l h=>Nat.lt_of_lt_of_le (en.hi j l h) hi) hl⟩⟩⟩
 .show j<i+vs.length
  rcases puts_cases hl with⟨v,h1,h2,_⟩ | ⟨h1,hl⟩
  .have u:=List.getElem?_eq_some_iff.mp h2;exact(Ln [j,i,vs.length,j - i] (.w (.p 1 .x)<|.a .y .z) [Gl (.p 1 .u) .z,Gf (.a .u .y) .x] rfl u.1<|Nat.sub_add_cancel (n:=j) (m:=i) h1)
  .exact Nat.lt_of_lt_of_le h1 (Nat.le_add_right _ _)
 .unfold compSc at hx;rcases lookup_app hx with hx | hx
  .refine ex1 (lookup_zipIdx hx) fun k z=>?_;exact O z.1<|.inl ⟨lookup_relabel_local<|ok.loc x<|List.mem_of_getElem? z.2,puts_at z.2⟩
  .-- one of the names around
   have Q:=lookup_filter (fun j0_ j1_ j2_=>rfl) hx;have hfree:scope.names.lookup x=some .free:=by simpa using Q.2
   right;refine hidG fun G g=>?_;rcases en.var x j Q.1 with⟨hk,_⟩ | ⟨_,c,hc,hl⟩
   .refine g ?_;rcases en.cf x (ok.free _ (mem_of_lookup hfree) rfl).2.2.2 with q | q <;> (have q:=hk▸q;cases q)
   .refine g ?_;refine⟨?_,c,?_,?_⟩
    .rcases lookup_relabel_free (ao:=ao) hfree with q | q
     .exact .inr ⟨q,(ok.free _ (mem_of_lookup hfree) rfl).2.1⟩
     .exact .inl q
    .refine ex1 (clF_mem (ao:=ao) scope.names [] _ (mem_of_lookup hfree) rfl) fun c1 hm=>?_;refine ex1 (lookup_of_mem hm) fun c2 Z=>?_;have:=clF_ok scope.names [] cells (fun p hp=>by cases hp) _ Z.2;have:ao.cells.lookup x=some c2:=this;rw[hc]at this;exact O (sos this) Z.1
    .exact puts_get (fun j l h=>Nat.lt_of_lt_of_le (en.hi j l h) hi) hl
 .exact lookup_relabel_other (by intro q;cases q) hx
 .rcases hx with hx | hx
  .exact .inl (lookup_relabel_other (by intro q;cases q) hx)
  .exact(lookup_relabel_free hx).symm
 .refine ex1 (en.slo p e) fun l hl=>?_;unfold compSc at hx;rcases lookup_app hx with hx | hx
  .exact ex1 (lookup_zipIdx hx) fun k z=>(fun q=>absurd (show y.si<i from(Nat.lt_of_lt_of_le (en.hi _ l hl) hi))<|Nat.not_lt.mpr (by refine O (show y.si=j from q)<|O z.1 ?_;exact Nat.le_add_right _ _))
  .exact en.nsi x j (lookup_filter (fun j0_ j1_ j2_=>rfl) hx).1 p e
section
variable {A:Around}{E:Value→Shared→Prop}{ao:Env}{V:Sc}{y:Lay}{ai:Addr→Option Nat}{Z:Addr→Prop}{s:Shared}{Y:Fm}
theorem an_le:tb.an.length≤sizeLine:=by rw[sizeLine_eq];exact(by decide:8≤16777216)
theorem store_atr{x a:Str}{i:Nat}{l:Loc}{v:Value}{glob:aB}{p:Addr×Obj}{dx:Addr}{Q:Unit→Shared→Prop}(gd:Gd glob)(J:InsOk V ao y p dx)(hx:V.isA x a i)(hl:y.loc i=some l)(I:Inv y ai Z s.heap Y)
  (h:∀h' tk,Put y i l v s.heap h'→Q () {s with heap:=h',toks:=tk}) :wpAny (model prog w) A (setAttr (.ref p.1) a v) Q E s:=by
 refine hidG fun G g=>?_;obtain⟨c,C,hcr,hC,hcl⟩:=J.cls;refine ex3 (gd.pl _ c hcr) fun C' N mN u=>?_;have hC':=u.1;have P:=u.2.1;have hna:=u.2.2.1;have hC':=hC▸hC';cases hC';have sf:=I.sf p J.slf;have hst:=hx.st;rw[hcr]at hst;obtain⟨ha,hli⟩:=J.an a i hx.at';rw[hl]at hli;obtain rfl:=sos hli;refine ex1 (I.ok i _ hl) fun mA U=>?_;obtain⟨nm,q,bs,sn,sub,col,dd,k0,k1,k2,k3,k5,hCo⟩:=(P.cls.keeps I.base).obj;have hxC:p.1≠C:=fun e=>by have:=sf.ob;rw[e,hCo]at this;exact J.nc _ (congrArg Obj.data<|sos this).symm
 refine g ?_;refine store_attr PySem.F.store_object hCo (P.cls.keeps I.base).ns (P.quiet _<|List.mem_append_left _ (by decide)) (P.quiet a<|List.mem_append_right _ hst) (hna a ha) hxC ⟨p.2,sf.ob,hcl,J.nc,.inr ⟨dx,J.dic,J.ne,U.1⟩⟩ (fun h' tk I' hk hsame=>?_) U.2 an_le;refine h h' tk ?_;refine hidG fun G2 g3=>?_;obtain⟨o1,g1,e1,e2,e3,e4⟩:=hsame _ sf.ob;have hob:h'.get? p.1=some p.2:=by refine O g1 ?_;obtain⟨_,⟨_,_,_,_⟩⟩:=p;subst e1;subst e2;subst e3;cases((e4 dx J.dic).trans J.dic.symm);rfl
 have kp:∀b o,b≠dx→s.1.get? b=some o→h'.get? b=some o:=fun b o n e=>by
  by_cases q:b=p.1
  .subst q;rw[sf.ob]at e;refine O (sos e).symm ?_;exact hob
  .exact hk b o q (fun o₀ dx' e0 e' q'=>by have e0:=sf.ob▸e0;obtain rfl:=sos e0;have e':=J.dic▸e';obtain rfl:=sos e';exact n q') e
 have ns':h'.Ns1 dx (fun z=>if z=a then some v else mA z)∧Within (fun z=>if z=a then some v else mA z) tb.an:=by
  refine⟨?_,fun z hz=>?_⟩
  .refine ex1 I' fun o I'=>?_;have ho:=I'.1;have r:=I'.2.2.2;rw[hob]at ho;obtain rfl:=sos ho;rcases r with⟨r,_⟩ | ⟨d',hd',_,r⟩
   .have r:=J.dic▸r;exact nomatch r
   .have hd':=J.dic▸hd';refine O (sos hd') ?_;exact r
  .by_cases q:z=a
   .exact q▸ha
   .exact U.2 z fun e=>hz (by show(if z=a then some v else mA z)=none;refine O (if_neg q) ?_;exact e)
 have key:∀j k,y.loc j=some k→j≠i→k.addr=dx→ ∃a',k = .attr dx tb.an a'∧a'≠a:=fun j k hk hj q=>(I.wf.apart j i k _ hk hl hj q).attr';refine g3 ?_;refine⟨kp,?_,⟨_,ns',if_pos rfl⟩,fun j k w hj hk r=>?_,fun j k hk=>?_,?_,fun p' j0_ q=>?_⟩
 .obtain⟨⟨o,_,_,e,_⟩,_⟩:=ns';exact⟨o,e⟩
 .by_cases q:k.addr=dx
  .obtain⟨a',rfl,n⟩:=key j k hk hj q;obtain⟨m',⟨hm,_⟩,e⟩:=r;have em:m' a'=mA a':=by refine ex3 hm fun o es ep hm=>?_;have ho:=hm.1;have hd:=hm.2.1;have hf:=hm.2.2.2.2;refine hidG fun G1 g2=>?_;obtain⟨o',es',ep',ho',hd',_,_,hf'⟩:=U.1;rw[ho]at ho';obtain rfl:=sos ho';have hd':=hd▸hd';injection hd' with hd';subst hd';refine g2 ?_;rw[← hf,hf']
   exact⟨_,ns',by show(if a'=a then some v else mA a')=some w;refine O (if_neg n)<|O em.symm ?_;exact e⟩
  .exact r.keeps fun o e=>kp _ o q e
 .by_cases q:k.addr=dx
  .obtain⟨a',rfl⟩:=J.zd j k hk q;exact⟨_,ns'⟩
  .exact(I.ok j k hk).keeps fun o e=>kp _ o q e
 .obtain⟨m,hn⟩:=I.nsL;exact⟨m,hn.at' fun o e=>kp _ o (fun q=>I.wf.al i _ _ _ hl q.symm) e⟩
 .have:=J.ls;rw[q]at this;have this:=hl▸this;exact nomatch this
end
end Mv
end
section
set_option backward.match.sparseCases false
namespace Mv
open PySem PyProof.Rows
variable [Hp]
section
variable {A:Around}{c:Cfg}{n:Nat}{ao:Env}{V:Sc}{y:Lay}
 {bv bv':aw} {ai own₁:Addr→Option Nat} {Z Z₁:Addr→Prop} {s s₁:Shared} {Y fr₁:Fm}
noncomputable def PostB(y:Lay)(bv:aw)(ai:Addr→Option Nat)(Z:Addr→Prop)(s:Shared)(ak:aA Bool×Fm)(b:Bool)(s':Shared) :Prop:=
 ∃own' Z',ak.1 = .ok b∧Inv y own' Z' s'.heap ak.2∧Step y bv ai Z s own' Z' s'
theorem tests_false{Q:Bool→Shared→Prop}{E:Value→Shared→Prop} :∀{ifs:az},Q false s→
  wpAny (model prog w) A (forIn ifs false fun c r=>if r=true then do let ok ← isTrue c ao (eval c ao);pure (ForInStep.yield ok) else pure (ForInStep.yield r)) Q E s:=by
 intro es h;induction es generalizing h with
 | nil=>exact wpAny_pure h
 | cons e es ih=>simp only[List.forIn_cons,Bool.false_eq_true,if_false];exact wpAny_bind<|wpAny_pure<|ih h
theorem conds_sound:∀{ifs:az}{conds:List Ex},F2 (fun e x=>ST A c y (isTrue e ao<|eval e ao) x) ifs conds→ ∀(ai:Addr→Option Nat)(Z:Addr→Prop)(s:Shared)(Y:Fm)(ak:aA Bool×Fm),evConds c conds Y=some ak→Inv y ai Z s.heap Y→
  wpAny (model prog w) A (forIn ifs true fun c r=>if r=true then do let ok ← isTrue c ao (eval c ao);pure (ForInStep.yield ok) else pure (ForInStep.yield r)) (PostB y (bvEs conds) ai Z s ak) (PostX y (bvEs conds) ai Z s ak) s:=by
 intro es M F;induction es generalizing M with
 | nil=>cases M with
  | nil=>intro ai Z s Y ak h I;exact O (sos h).symm<|wpAny_pure ⟨ai,Z,rfl,I,.refl⟩
  | cons x1 x2=>exact F.elim
 | cons e es ih=>cases M with
  | nil=>exact F.elim
  | cons x M=>
    intro ai Z s Y ak h I;rw[evConds_cons]at h;simp only[List.forIn_cons,if_true];refine wpAny_bind<|wpAny_bind<|seqT (bv:=bvE x) (bv':=bvE x++bvEs M) h .refl inl_ (fun r fr₂ h=>?_) (fun o e hd=>F.1 ai Z s Y o e hd I) fun r d fr₁ own₁ Z₁ s₁ h hd I₁ S₁ S=>?_
    .refine ex1 (mo_s h) fun d z34=>?_;exact⟨_,z34.1⟩
    .rw[hd,mo_e]at h;refine wpAny_pure ?_;cases ht:tD d with
     | true=>rw[ht,if_pos rfl]at h;refine wpAny_mono (ih F.2.2 own₁ Z₁ s₁ fr₁ ak h I₁) (fun b s' p=>?_) fun e s' p=>p.sub inr_ S;exact ex2 p fun own' Z' p=>(⟨own',Z',p.1,p.2.1,S.trans<|p.2.2.sub inr_⟩)
     | false=>rw[ht,if_neg Bool.false_ne_true]at h;exact O (sos h).symm<|tests_false ⟨own₁,Z₁,rfl,I₁,S⟩
theorem clr_no:∀{is:aw}{Y:Fm}{j:Nat},(∀sl,Y[j]?=some sl→sl = .no)∨j∈is→ ∀sl,(clr Y is)[j]?=some sl→sl = .no
 | [],Y,j,h=>h.elim id fun q=>nomatch q
 | i::is,Y,j,h=>clr_no (is:=is) (Y:=Y.set i .no) (by
  rcases h with h | h
  .exact .inl fun sl e=>(set_get e).elim (fun q=>q.2) fun q=>h sl q.2
  .rcases List.mem_cons.mp h with rfl | h
   .exact .inl fun sl e=>(set_get e).elim (fun q=>q.2) fun q=>absurd rfl q.1
   .exact .inr h)
theorem CG.vars{i j:Nat}{g:Expr}{vs:ax}{t:Tgt}(h:CG i g vs t)(h1:i≤j)(h2:j<i+vs.length) :j∈tgtVars t:=by cases h with
 | one=>exact List.mem_singleton.mpr<|Nat.le_antisymm (Nat.le_of_lt_succ h2) h1
 | two=>
  rcases Nat.eq_or_lt_of_le h1 with q | q
  .exact q▸ .head _
  .exact List.mem_cons_of_mem _ (List.mem_singleton.mpr<|Nat.le_antisymm (Nat.le_of_lt_succ h2) q)
theorem CG.gok{i:Nat}{g:Expr}{vs:ax}{t:Tgt}{it:Itk}(h:CG i g vs t)(hz:it.pairs=true→t.isTup=true) :gOk it g:=fun q=>by cases h with
 | one=>cases hz q
 | two=>exact⟨_,_,_,rfl⟩
theorem comp_turns{elt target iter:Expr}{ifs:az}{scope:Scope}{pos:Pos}{it am:Value}{ao:Env}{R:Result→Shared→Prop}(I:Nat→Shared→Prop)
  (turn:∀n s,I n s→wpAny (model prog w) A (pyNext it) (fun r s₁=>match r with
   | none=>R (.ok .next) s₁
   | some v=>wpAny (model prog w) A (letOwnedTupleGo target it v) (fun j0_ s₁=>wpAny (model prog w) A (assign target ao v) (fun j0_ s₂=>
     wpAny (model prog w) A (forIn ifs true fun c r=>if r=true then do let ok ← isTrue c ao (eval c ao);pure (ForInStep.yield ok) else pure (ForInStep.yield r)) (fun ok s₃=>
      if ok=true then wpAny (model prog w) A (eval elt ao) (fun x s₄=>
       wpAny (model prog w) A (call (.builtin "list.append") [am,x]) (fun j0_ s₅=> ∃m,m < n∧I m s₅) (notedBy (model prog w) A ao fun e s'=>R (.error e) s') s₄) (notedBy (model prog w) A ao fun e s'=>R (.error e) s') s₃
      else ∃m,m<n∧I m s₃) (notedBy (model prog w) A ao fun e s'=>R (.error e) s') s₂) (notedBy (model prog w) A ao fun e s'=>R (.error e) s') s₁) (notedBy (model prog w) A ao fun e s'=>R (.error e) s') s₁) (notedBy (model prog w) A ao fun e s'=>R (.error e) s') s)
  (n:Nat) (h:I n s) :codeAny (model prog w) A (.compLoop (.ListComp elt [⟨target,iter,ifs,0⟩] scope pos) 0 it am ao) R s:=by
 refine codeAny_loop rfl I (fun n s hI=>?_) n h;show wpAny _ A ((compTurn (.ListComp elt [⟨target,iter,ifs,0⟩] scope pos) 0 it am ao).onRaise (fun x=>do noteFrame x ao;theTreesLotGoes x)) _ _ s
 refine wpAny_noted ?_;rw[compTurn_list];refine wpAny_bind<|wpAny_standAt<|wpAny_bind<|wpAny_mono (turn n s hI) (fun r s₁ h₁=>?_) fun j0_ j1_ h'=>h';cases r with
 | none=>exact wpAny_pure h₁
 | some v=>refine wpAny_bind<|wpAny_mono h₁ (fun j0_ s₂ h₁=>wpAny_bind<|wpAny_mono h₁ (fun j0_ s₂ h₂=>wpAny_bind<|wpAny_mono h₂ (fun ok s₃ h₃=>?_) fun j0_ j1_ h'=>h') fun j0_ j1_ h'=>h') fun j0_ j1_ h'=>h';cases ok with
  | false=>exact wpAny_pure ⟨rfl,h₃⟩
  | true=>exact wpAny_bind<|wpAny_bind<|wpAny_mono h₃ (fun x s₄ h₄=>wpAny_bind<|wpAny_mono h₄ (fun j0_ s₅ h₅=>wpAny_pure<|wpAny_pure ⟨rfl,h₅⟩) fun j0_ j1_ h'=>h') fun j0_ j1_ h'=>h'
theorem ifN{α:Type}{p:Prop}[Decidable p]{x:Option α}{r:α}(h:(if p then none else x)=some r) :x=some r:=by
 by_cases q:p
 .rw[if_pos q]at h;exact nos h
 .rw[if_neg q]at h;exact h
theorem cg_asg{g:Expr}{vs:ax}{t:Tgt}{v:Value}{d:D}{i:Nat}{C:Addr}{Y fr₂:Fm}{Q:Unit→Shared→Prop}{E:Value→Shared→Prop}(cg:CG i g vs t)(en:EnvOk A V ao y)(hh:A.handled=none)
  (hv:∀k v,vs[k]?=some v→V.vars.lookup v=some (i+k)∧ao.kindOf v=some .local∧y.loc (i+k)=some (.dict C v))
  (he:asgT c.pin Y t (.fz d)=some fr₂) (I:Inv y ai Z s.heap Y) (R:Rep s.heap Z v d)
  (K:∀h' tk,Inv y ai Z h' fr₂→Step y (tgtVars t) ai Z s ai Z {s with heap:=h',toks:=tk}→Q () {s with heap:=h',toks:=tk}) :wpAny (model prog w) A (assign g ao v) Q E s:=by
 cases cg with
 | one=>obtain⟨h1,z⟩:=hv 0 _ rfl;obtain⟨_,rfl⟩:=ifn he;exact wpAny_assign_Name<|store_put en h1 (by refine O z.1 ?_;intro q;cases q) z.2 I fun h' tk P=>K h' tk (P.fz I z.2 R)<|P.step z.2 I
 | two=>cases d with
  | tuple X=>
   refine hidG fun G g=>?_;obtain⟨a,us,n,rfl,ht,hn,RR,z⟩:=Dat.tuple<|.inl R;obtain⟨h1,h2,h3⟩:=hv 0 _ rfl;obtain⟨g1,U⟩:=hv 1 _ rfl;refine g ?_;have he:asgs c.pin Y [i,i+1] X=some fr₂:=he;cases RR with
   | nil=>exact nos he
   | @cons u us d X r RR=>
   have he:asgs c.pin (Y.set i<|.fz d) [i+1] X=some fr₂:=ifN he;cases RR with
   | nil=>exact nos he
   | @cons u' us d' X r' RR=>
   cases RR with
   | cons=>exact nos<|ifN he
   | nil=>
   obtain rfl:=sos<|ifN he;refine assign_Tuple_tuple hh ⟨_,ht,rfl,_,rfl⟩ rfl rfl fun h' ext=>?_;have kp:∀b o,s.heap.get? b=some o→h'.get? b=some o:=fun b o e=>ext b o (Nat.ne_of_lt<|Heap.lt_size e) e;have I0:Inv y ai Z ({s with heap:=h'} :Shared).heap Y:=I.grow kp;refine assignInOrder_cons<|wpAny_assign_Name<|store_put (s:= {s with heap:=h'}) en h1 (by refine O h2 ?_;intro q;cases q) h3 I0 fun h₁ tk P=>?_;have I1:=P.fz I0 h3<|r.mono (fun b o j0_=>kp b o) fun j0_ z=>z;have S1:Step y [i] ai Z s ai Z {s with heap:=h₁,toks:=tk}:=(Step.grow (tk:=s.toks) kp).trans<|P.step h3 I0;refine assignInOrder_cons<|wpAny_assign_Name<|store_put (s:= {s with heap:=h₁,toks:=tk}) en g1 (by refine O U.1 ?_;intro q;cases q) U.2 I1 fun h₂ tk' P'=>assignInOrder_nil ?_;exact K h₂ tk' (P'.fz I1 U.2<|S1.rep I r')<|(S1.sub fun j hj=>List.mem_cons.mpr<|.inl<|List.mem_singleton.mp hj).trans<|(P'.step U.2 I1).sub fun j hj=>List.mem_cons_of_mem _ hj
  | _=>exact nos he
inductive CInv(y:Lay)(bv:aw)(ai:Addr→Option Nat)(Z:Addr→Prop)(s:Shared)(items:aB)(fp wr:List Addr)(P:Nat→Itm→Prop)(St:Nat→Heap→Prop)(Da:Addr)(c:Cfg)(x:Ex)(t:Tgt)(conds:List Ex)(ak:aA Rv×Fm)(m:Nat)(s':Shared) :Prop
 | mk (k:Nat) (own':Addr→Option Nat) (Z':Addr→Prop) (fr':Fm) (vs:ay) (ds0:aB) :m=items.length+1 - k→k≤items.length→Inv y own' Z' s'.heap fr'→Step y bv ai Z s own' Z' s'→
   WkAt y items fp wr P St s.heap own' Z' s'.heap k→Loose y own' Z' s.heap s'.heap Da→s'.heap.PlainList Da vs.toArray→RepAll s'.heap Z' vs ds0→ds0.length≤k→
   bndCK (tgtVars t) (compB c fr' x t conds<|items.drop k) (fun ds1 Y=>some (.ok<|.ai<|.list<|ds0++ds1,Y))=some ak→CInv y bv ai Z s items fp wr P St Da c x t conds ak m s'
theorem comp_loop{elt iter g:Expr}{vs':ax}{t:Tgt}{C:Addr}{pos:Pos}{ifs:az}{scope:Scope}{i:Nat}{conds:List Ex}{x:Ex}{ak:aA Rv×Fm}{It Da:Addr}{items:aB}{fp wr:List Addr}{P:Nat→Itm→Prop}{St:Nat→Heap→Prop}{it:Itk}{R:Result→Shared→Prop}
  (cg:CG i g vs' t) (hz:it.pairs=true→t.isTup=true) (hh':A.handled=none) (en:EnvOk A V ao y) (hv:∀k v,vs'[k]?=some v→V.vars.lookup v=some (i+k)∧ao.kindOf v=some .local∧y.loc (i+k)=some (.dict C v)) (hX:SE A c y (eval elt ao) x) (hC:F2 (fun e x=>ST A c y (isTrue e ao<|eval e ao) x) ifs conds)
  (bvI:∀j∈tgtVars t,j∈bv) (bvX:∀j∈bvE x,j∈bv) (bvC:∀j∈bvEs conds,j∈bv) (W:Wk A it It items fp wr P St) (hlen:items.length≤Sz) (hfpD:Da∉fp) (sD:s.heap.get? Da=none)
  (I₁:Inv y own₁ Z₁ s₁.heap fr₁) (S₁:Step y bv ai Z s own₁ Z₁ s₁) (WA₁:WkAt y items fp wr P St s.heap own₁ Z₁ s₁.heap 0) (LD₁:Loose y own₁ Z₁ s.heap s₁.heap Da) (hacc:s₁.heap.PlainList Da ([] :ay).toArray)
  (h:bndCK (tgtVars t) (compB c fr₁ x t conds items) (fun X Y=>some (.ok<|.ai<|.list X,Y))=some ak)
  (KE:∀nm f e s',ak=(.error nm,clr f<|tgtVars t)→PostY y bv ai Z s ak e s'→R (.error e) s')
  (K:∀(s':Shared)(own':Addr→Option Nat)(Z':Addr→Prop)(X:aB)(fr':Fm),ak=(.ok<|.ai<|.list X,clr fr'<|tgtVars t)→Inv y own' Z' s'.heap fr'→Step y bv ai Z s own' Z' s'→Loose y own' Z' s.heap s'.heap Da→OwnAt s'.heap Z' Da (.list X)→R (.ok .next) s') :
  codeAny (model prog w) A (.compLoop (.ListComp elt [⟨g,iter,ifs,0⟩] scope pos) 0 (.ref It) (.ref Da) ao) R s₁:=by
 refine hid2 (CInv y bv ai Z s items fp wr P St Da c x t conds ak) fun J je ji=>?_;refine comp_turns J ?_ (items.length+1)
  (ji _ _ ⟨0,own₁,Z₁,fr₁,[],[],rfl,Nat.zero_le _,I₁,S₁,WA₁,LD₁,hacc,.nil,Nat.zero_le _,by refine O List.drop_zero ?_;exact h⟩)
 clear h I₁ S₁ WA₁ LD₁ hacc;intro m s' jq;obtain⟨k,own',Z',fr',vs,ds0,rfl,hk',I',S',WA',LD',hpl,RA,hdl,hh⟩:=je _ _ jq;clear jq je;by_cases hkl:k<items.length
 .clear K;have hd:=List.getElem?_eq_getElem hkl;rw[List.drop_eq_getElem_cons hkl]at hh;generalize items[k]=d at hd hh;rw[compB_cons]at hh;refine next_item W (cg.gok hz) WA' I' S' hd (fun j0_ j1_ p=>p) fun val s₅ Z₅ zm₅ Rv₅ WA₅ I₅ S₅ lo₅ kp₅=>?_;have kD:∀o,s'.heap.get? Da=some o→s₅.heap.get? Da=some o:=fun o e=>kp₅ Da o (fun hm=>hfpD<|W.sub Da hm) e;have LD₅:=lo₅ Da LD' fun hm=>hfpD<|W.sub Da hm;have hpl₅:=hpl.at kD;have hvl:vs.length≤items.length:=by exact O RA.length (Ln [ds0.length,items.length,k] (.w .x .y) [Gl .z .y,Gl .x .z] rfl hk' hdl)
  have RA₅:=RA.mono (fun a o z=>kp₅ a o fun q=>(WA'.wr a q).2.2.2.1 z) zm₅;clear kD hpl LD' RA S' WA' I' kp₅ lo₅ zm₅;have I₅c:=I₅.clr<|tgtVars t;generalize clr fr' (tgtVars t)=fr₅ at hh I₅c;rcases hfr₆:asgT c.pin fr₅ t (.fz d) with _ | fr₆
  .rw[hfr₆]at hh;exact nos hh
  .rw[hfr₆,mo_e]at hh;refine cg_asg cg en hh' hv hfr₆ I₅c Rv₅ fun h₆ tk I₆ S56=>?_;have S₆:=S₅.trans<|S56.sub bvI;have WA₆:=WA₅.step W I₅c S56;obtain⟨LD₆,kD₆⟩:=S56.loose LD₅;have hpl₆:=hpl₅.at kD₆;have RA₆:=S56.repAll I₅c RA₅;clear S56 kD₆ hpl₅ RA₅ LD₅ WA₅ S₅ Rv₅ I₅c hfr₆;rcases hcv:evConds c conds fr₆ with _ | ⟨e7 | b,fr₇⟩
   .have hh:=hcv▸hh;exact nos hh
   .rw[hcv]at hh;obtain rfl:=sos hh;exact wpAny_mono (conds_sound hC own' Z₅ {s₅ with heap:=h₆,toks:=tk} _ _ hcv I₆) (fun b' s₇ p=>by refine ex2 p fun j0_ j1_ p=>?_;exact kre p.1) fun j0_ j1_ x=>(x.up (γ:=Rv) bvC S₆).clr.note en fun s'' p=>KE _ _ _ _ rfl p
   .rw[hcv]at hh;refine wpAny_mono (conds_sound hC own' Z₅ {s₅ with heap:=h₆,toks:=tk} _ _ hcv I₆) (fun b' s₇ p=>?_) fun j0_ j1_ x=>x.elim;refine ex2 p fun own₇ Z₇ p=>?_;have q:=p.1;have I₇:=p.2.1;have S67:=p.2.2;refine O (oki q).symm ?_;have S₇:=S₆.trans<|S67.sub bvC;have WA₇:=WA₆.step W I₆ S67;obtain⟨LD₇,kD₇⟩:=S67.loose LD₆;have hpl₇:=hpl₆.at kD₇;have RA₇:=S67.repAll I₆ RA₆;clear S67 kD₇ hpl₆ RA₆ LD₆ WA₆ S₆ I₆;rw[bnd_ok]at hh;cases b with
    | false=>rw[if_neg Bool.false_ne_true]at hh ⊢;exact⟨items.length+1 - (k+1),turn_dec hk',ji _ _ ⟨k+1,own₇,Z₇,fr₇,vs,ds0,rfl,hkl,I₇,S₇,WA₇,LD₇,hpl₇,RA₇,Nat.le_succ_of_le hdl,hh⟩⟩
    | true=>
     rw[if_pos rfl]at hh ⊢;rcases hev:ev c x fr₇ with _ | ⟨e8 | r,fr₈⟩
     .rw[hev]at hh;exact nos hh
     .rw[hev]at hh;obtain rfl:=sos hh;exact wpAny_mono (hX own₇ Z₇ s₇ _ _ hev I₇) (fun val s₈ p=>by obtain⟨_,_,_,q,_⟩:=p;exact kre q) fun j0_ j1_ x=>(x.up (γ:=Rv) bvX S₇).clr.note en fun s'' p=>KE _ _ _ _ rfl p
     .have hh:=hev▸hh;rw[bnd_ok]at hh;refine wpAny_mono (hX own₇ Z₇ s₇ _ _ hev I₇) (fun val s₈ p=>?_) fun j0_ j1_ x=>x.elim;refine hidG fun G g1=>?_;obtain⟨r',own₈,Z₈,q,I₈,S78,R₈⟩:=p;obtain rfl:=oki q;cases hr:rvV r with
      | none=>refine g1 ?_;rw[hr]at hh;exact nos hh
      | some d'=>
       refine g1 ?_;have hh:=hr▸hh;obtain⟨Z₉,I₉,S79,R₉⟩:=R₈.freeze I₈ S78 hr;have S₉:=S₇.trans<|S79.sub bvX;have WA₉:=WA₇.step W I₇ S79;obtain⟨LD₉,kD₉⟩:=S79.loose LD₇;have hpl₉:=hpl₇.at kD₉;have RA₉:=S79.repAll I₇ RA₇;clear S79 kD₉ hpl₇ RA₇ LD₇ WA₇ S₇ I₇ R₈ I₈ S78;refine wpAny_list_append_plain (hsz:=by refine O List.size_toArray<|O sz_line.symm ?_;exact(Ln [vs.length,items.length] (.w .x<|.c 16777216) [Gl .y<|.c 16777216,Gl .x .y] rfl hlen hvl)) hpl₉ fun h₁₀ hp₁₀ hs₁₀=>?_;have kp:∀b o, ¬b=Da→s₈.heap.get? b=some o→h₁₀.get? b=some o:=fun b o q e=>hs₁₀.extBut b o q e;have hXX:∀b,b=Da→ ¬y.wr own₈ b∧ ¬y.F b∧ ¬Z₉ b:=fun b q=>by subst q;exact⟨LD₉.2.1,LD₉.2.2.1,LD₉.2.2.2.1⟩
       have kz:∀a o,Z₉ a→s₈.heap.get? a=some o→h₁₀.get? a=some o:=fun a o z e=>kp a o (fun q=>(hXX a q).2.2 z) e;refine⟨items.length+1 - (k+1),turn_dec hk',ji _ _ ⟨k+1,own₈,Z₉,fr₈,vs++[val],ds0++[d'],rfl,hkl,I₉.other hXX kp,S₉.other (tk:=s₈.toks) (ag:=fun b=>b=Da) (fun b q=>⟨q▸sD,(hXX b q).1⟩) kp,
        WA₉.other W (ag:=fun b=>b=Da) (fun b q=>⟨(hXX b q).2.2,q▸hfpD⟩) kp,LD₉.other (let ⟨n,e⟩:=hp₁₀;⟨_,e⟩),by simpa using hp₁₀,(RA₉.mono kz fun j0_ z=>z).append<|.cons (R₉.mono kz fun j0_ z=>z) .nil,by refine O List.length_append ?_;simp;exact hdl,?_⟩⟩
       rcases hcb:compB c fr₈ x t conds (items.drop<|k+1) with _ | ⟨_ | ds1,f⟩
       .have hh:=hcb▸hh;exact nos hh
       .rw[hcb]at hh;exact hh
       .rw[hcb]at hh;refine Eq.trans ?_ hh;show some ((Except.ok (Rv.ai<|.list<|ds0++[d']++ds1) :aA Rv),f)=some (Except.ok<|Rv.ai<|.list (ds0++d'::ds1),f)
        rw[List.append_assoc];rfl
 .have hke:k=items.length:=Nat.le_antisymm hk'<|Nat.not_lt.mp hkl;subst hke;rw[List.drop_length,compB_nil]at hh;have hout:=(Option.some.inj hh).symm;rw[List.append_nil]at hout;refine next_done W WA' I' S' fun s'' I'' S'' kp j0_=>?_;have kD:∀o,s'.heap.get? Da=some o→s''.heap.get? Da=some o:=fun o e=>kp Da o (fun hm=>hfpD<|W.sub Da hm) e;have kz:∀a o,Z' a→s'.heap.get? a=some o→s''.heap.get? a=some o:=fun a o z=>kp a o fun q=>(WA'.wr a q).2.2.2.1 z;obtain⟨n,e⟩:=hpl.at kD;exact K s'' own' Z' ds0 fr' hout I'' S'' (LD'.other (h':=s''.heap) ⟨_,e⟩)<|.list e (by refine O RA.length ?_;exact(Ln [ds0.length,items.length] (.w .x<|.c 16777216) [Gl .y<|.c 16777216,Gl .x .y] rfl hlen hdl))<|RA.mono kz fun j0_ z=>z
theorem comp_any{elt iter g:Expr}{vs:ax}{t:Tgt}{pos pos':Pos}{ifs:az}{scope:Scope}{i:Nat}{it:Itk}{src conds:List Ex}{x:Ex}{ak:aA Rv×Fm}{use:Option (Value→Sem Unit)}{Q:Value→Shared→Prop}{E:Value→Shared→Prop}
  (cg:CG i g vs t) (hz:it.pairs=true→t.isTup=true) (hh:A.handled=none) (en:EnvOk A V ao y) (ok:CompOk scope V vs) (hi:V.hi≤i) (hI:SI A c y (eval iter ao) it src) (hfold:∀v,foldedSetIterable iter ao v=pure v)
  (hX:∀ao y,EnvOk A (compSc scope V vs i) ao y→SE A c y (eval elt ao) x) (hC:∀ao y,EnvOk A (compSc scope V vs i) ao y→F2 (fun e x=>ST A c y (isTrue e ao<|eval e ao) x) ifs conds)
  (h:ev c (.comp x t it src conds) Y=some ak) (I:Inv y ai Z s.heap Y)
  (hE:∀e s',PostX y (bvE<|.comp x t it src conds) ai Z s ak e s'→E e s')
  (K:∀(Da C:Addr)(s':Shared)(own':Addr→Option Nat)(Z':Addr→Prop)(X:aB)(fr':Fm)(m:Str→Option Value),ak=(.ok<|.ai<|.list X,fr')→Inv y own' Z' s'.heap fr'→Step y (bvE<|.comp x t it src conds) ai Z s own' Z' s'→
   RvAt y own' Z' s.heap s'.heap (.ai<|.list X) (.ref Da)→Loose y own' Z' s.heap s'.heap C→s'.heap.Ns C m→Da≠C→compPost (model prog w) A E use Q (.ref Da) C (.ok .next) s') :
  wpAny (model prog w) A (comprehension (.ListComp elt [⟨g,iter,ifs,0⟩] scope pos) scope ao pos' (newList []) false (eval iter ao) use) Q E s:=by
 have hyi:∀j l,y.loc j=some l→j<i:=fun j l e=>Nat.lt_of_lt_of_le (en.hi j l e) hi;rw[ev_comp]at h;have bvS:∀j∈bvEs src,j∈bvE (.comp x t it src conds):=fun j hj=>List.mem_append_left _<|List.mem_append_right _ hj;have bvX:∀j∈bvE x,j∈bvE (.comp x t it src conds):=fun j hj=>List.mem_append_left _<|List.mem_append_left _<|List.mem_append_right _ hj;have bvC:∀j∈bvEs conds,j∈bvE (.comp x t it src conds):=fun j hj=>List.mem_append_right _ hj;have bvI:∀j∈tgtVars t,j∈bvE (.comp x t it src conds):=fun j hj=>List.mem_append_left _<|List.mem_append_left _<|List.mem_append_left _ hj;generalize hbv:bvE (.comp x t it src conds)=bv at *;have env':=fun C=>(comp_env (C:=C) en ok hi)
 refine wpAny_comprehension_free (use:=use) rfl hfold (env' 0).1 ok.kind ok.names ?_;rcases bnd_some h with⟨e,f,hm,rfl⟩ | ⟨rs,fr₁,hm,h⟩
 .refine wpAny_mono (hI ai Z s Y _ hm (fun rs q=>by exact kre q) I) (fun x s₁ p=>wpAny_mono p (fun itv s₂ p=>?_) fun j0_ j1_ x=>hE _ _<|x.up bvS .refl) fun j0_ j1_ x=>hE _ _<|x.up bvS .refl;obtain⟨_,_,_,_,_,_,_,_,_,_,q,_⟩:=p;exact kre q
 .refine ex1 (mo_s h) fun X z35=>?_;have h:=z35.2;refine ex1 (mo_s h) fun items z36=>?_;have h:=z36.2;refine wpAny_mono (hI ai Z s Y _ hm (fun rs q=>by refine O (oki q).symm ?_;exact⟨X,items,z35.1,z36.1⟩) I) (fun xv s₁ p=>wpAny_mono p (fun itv s₂ p=>?_) fun j0_ j1_ x=>x.elim) fun j0_ j1_ x=>x.elim;obtain⟨rs',ds',items',own₁,Z₁,It,fp,wr,P,St,q,hds',hit',hlen,rfl,I₂,S₂,W,WA⟩:=p;obtain rfl:=oki q;rw[z35.1]at hds';obtain rfl:=sos hds';rw[z36.1]at hit';obtain rfl:=sos hit';dsimp only at I₂;have S₂:=S₂.sub bvS
  -- the list and the block
  refine wpAny_newObj_type (wpAny_newFunctionEnv ok.cell (by intro z hz; exact nomatch hz) (fun h₁ hns₁ hsb₁=>?_) ok.kind);dsimp only at hns₁ hsb₁ ⊢;generalize hH2:s₂.heap.push {cls:=.type "list",dict:=none,data:=.seq ([] :ay).toArray}=H2 at hns₁ hsb₁ ⊢;let Da:=s₂.heap.objs.size
  let C:=H2.objs.size
  have hsz:H2.objs.size=s₂.heap.objs.size+1:=by refine O hH2.symm ?_;rw[Heap.size_push]
  have hDC:Da≠C:=by show s₂.heap.objs.size≠H2.objs.size;exact(fun mvo84=>(Lf [H2.objs.size,s₂.heap.objs.size] [Gf .x<|.p 1 .y,Gf .y .x] rfl hsz mvo84))
  have nC:s₂.heap.get? C=none:=by cases e:s₂.heap.get? C with
   | none=>rfl
   | some o=>have:=Heap.lt_size e;exact absurd this (by show ¬H2.objs.size<_;exact(fun mvo88=>(Lf [H2.objs.size,s₂.heap.objs.size] [Gf .x<|.p 1 .y,Gl (.p 1 .x) .y] rfl hsz mvo88)))
  have nD:s₂.heap.get? Da=none:=hN0 _;have old:∀b o,s₂.heap.get? b=some o→h₁.get? b=some o:=fun b o e=>by exact hsb₁.extBut b o (Nat.ne_of_lt<|Nat.lt_trans (Heap.lt_size e) (by refine O hsz ?_;exact Nat.lt_succ_self _))<|Heap.get?_push_of_some _<|hH2▸Heap.get?_push_of_some _ e
  have hacc:h₁.PlainList Da ([] :ay).toArray:=⟨_,hsb₁.extBut _ _ hDC<|Heap.get?_push_of_some _<|hH2▸Heap.get?_push_size _ rfl⟩
  have sC:=S₂.old _ nC;have sD:=S₂.old _ nD;have hfpD:Da∉fp:=fun hm=>by obtain⟨o,e⟩:=W.lv 0 _ WA.st Da hm;rw[nD]at e;exact nos e
  -- the turns
  let s₄:Shared:= {s₂ with heap:=h₁,toks:=s₂.toks+([] :List (Str×Value)).length}
  have lp:∀{b:Addr},Loose y own₁ Z₁ s.heap s₂.heap b→Loose (y.puts C i vs) own₁ Z₁ s.heap s₄.heap b:=fun {b} l=>by obtain⟨l1,l2,l3,l4,o,l5⟩:=l;exact⟨l1,fun q=>(put_wr q).elim l2 (fun q=>by rw[q,nC]at l5;exact nos l5),l3,l4,o,old b o l5⟩
  have WA₄:WkAt (y.puts C i vs) items fp wr P St s.heap own₁ Z₁ s₄.heap 0:=
   ⟨W.frame 0 _ _ WA.st fun b j0_ o e=>old b o e,fun b hb=>(WA.fp b hb).imp id lp,fun b hb=>lp<|WA.wr b hb,fun j v hj p=>let ⟨d,e,r⟩:=WA.it j v hj p;⟨d,e,r.mono (fun a o j0_=>old a o) fun j0_ z=>z⟩⟩
  have LD:Loose (y.puts C i vs) own₁ Z₁ s.heap s₄.heap Da:=⟨sD,fun q=>(put_wr q).elim (I₂.fresh nD).1 fun q=>hDC q,(I₂.fresh nD).2.1,(I₂.fresh nD).2.2,let ⟨n,e⟩:=hacc;⟨_,e⟩⟩
  have loop:codeAny (model prog w) A (.compLoop (.ListComp elt [⟨g,iter,ifs,0⟩] scope pos) 0 (.ref It) (.ref Da)<|compEnvC scope (clF ao scope.names []) C ao) (compPost (model prog w) A E use Q (.ref Da) C) s₄:=by
   have at0:∃v,vs[0]?=some v:=by cases cg <;> exact⟨_,rfl⟩
   refine ex1 at0 fun v0 at0=>?_;have at0:=puts_at (y:=y) (C:=C) (i:=i) at0;have LC:∀{own':Addr→Option Nat}{Z':Addr→Prop}{s'':Shared}{fr':Fm},Inv (y.puts C i vs) own' Z' s''.heap fr'→Loose y own' Z' s.heap s''.heap C∧ ∃m,s''.heap.Ns C m:=fun I''=>by
    refine ex1 (I''.ok _ _ at0) fun m hm=>?_;refine⟨⟨sC,fun q=>?_,I''.wf.nf _ _ at0,I''.zl _ _ at0,let ⟨o,_,_,e,_⟩:=hm;⟨o,e⟩⟩,m,hm⟩;rcases q with q | q | ⟨j,l,hl,q⟩
    .exact q (I''.ol _ _ at0)
    .refine ex4 I₂.nsL fun m o j0_ j1_ u=>?_;have e:=u.1;rw[← q,nC]at e;exact nos e
    .obtain⟨o,e⟩:=(I₂.ok j l hl).live;rw[q,nC]at e;exact nos e
   refine comp_loop (C:=C) cg hz hh ((env' C).2) (fun k v e=>⟨lookup_app'<|zipIdx_lk ok.vnd e,lookup_relabel_local<|ok.loc v<|List.mem_of_getElem? e,puts_at e⟩) (hX _ _<|(env' C).2) (hC _ _<|(env' C).2) bvI bvX bvC W hlen hfpD sD ((I₂.grow old).put hyi ok.vnd (I₂.fresh nC).1 (I₂.fresh nC).2.1 (I₂.fresh nC).2.2 hns₁) ((S₂.trans<|.grow old).put hyi sC) WA₄ LD hacc h (fun nm f e s'' hout p=>?_) fun s'' own' Z' ds0 fr' hout I'' S'' LD'' OA=>?_
   .obtain⟨nm',a,own',Z',q,rfl,I',S',ag⟩:=p;obtain⟨LC',m,hm⟩:=LC I';refine⟨m,hm,fun h' sb cenv j0_=>?_⟩;have hXX:∀b,b=C→ ¬y.wr own' b∧ ¬y.F b∧ ¬Z' b:=fun b q=>by subst q;exact⟨LC'.2.1,LC'.2.2.1,LC'.2.2.2.1⟩
    have kp:∀b o, ¬b=C→s''.heap.get? b=some o→h'.get? b=some o:=fun b o q e=>sb.extBut b o q e;have I1:Inv y own' Z' h' ak.2:=(I'.unput I.wf hyi en.slo fun j h1 h2=>by refine O hout ?_;exact clr_no<|.inr<|cg.vars h1 h2).other hXX kp;have S1:Step y bv ai Z s own' Z' {s'' with heap:=h'}:=(S'.unput hyi sC).other (tk:=s''.toks) (ag:=fun b=>b=C) (fun b q=>⟨q▸sC,(hXX b q).1⟩) kp;have X1:ExcTr h' (fun b=>s.heap.get? b=none∧ ¬y.wr own' b∧ ¬y.F b∧ ¬Z' b) a nm':=ag.mono (fun b o vs hd e=>kp b o (fun q=>by refine ex3 hm fun o' j0_ j1_ hm=>?_;have e':=hm.1;have hd':=hm.2.1;rw[q,e']at e;obtain rfl:=sos e;have hd:=hd'▸hd;exact nomatch hd) e) fun b h=>⟨h.1,fun q=>h.2.1<|wr_put hyi q,h.2.2.1,h.2.2.2⟩
    exact pass_exc (s:= {s'' with heap:=h'}) X1 fun h₃ lv X₃=>hE _ _ ⟨nm',a,own',Z',q,rfl,Inv.lv (s:= {s'' with heap:=h'}) I1 lv (fun b p=>p.2) fun j0_ f=>f.elim,S1.lv I1 lv (fun b p=>p) fun j0_ f=>f.elim,X₃.is⟩
   obtain⟨LC',m,hm⟩:=LC I'';exact K Da C s'' own' Z' ds0 _ m hout ((I''.clr<|tgtVars t).unput I.wf hyi en.slo fun j h1 h2=>clr_no<|.inr<|cg.vars h1 h2) (S''.unput hyi sC) ⟨Da,rfl,sD,fun q=>LD''.2.1<|wr_put hyi q,LD''.2.2.1,LD''.2.2.2.1,OA⟩ LC' hm hDC
  exact codeAny_compStart_list loop<|W.self 0 _ _ _ WA₄.st loop
theorem se_comp{elt iter g:Expr}{vs:ax}{t:Tgt}{pos:Pos}{ifs:az}{scope:Scope}{i:Nat}{it:Itk}{src conds:List Ex}{x:Ex}
  (cg:CG i g vs t) (hz:it.pairs=true→t.isTup=true) (hh:A.handled=none) (en:EnvOk A V ao y) (ok:CompOk scope V vs) (hi:V.hi≤i) (hI:SI A c y (eval iter ao) it src) (hfold:∀v,foldedSetIterable iter ao v=pure v)
  (hX:∀ao y,EnvOk A (compSc scope V vs i) ao y→SE A c y (eval elt ao) x) (hC:∀ao y,EnvOk A (compSc scope V vs i) ao y→F2 (fun e x=>ST A c y (isTrue e ao<|eval e ao) x) ifs conds) :
  SE A c y (eval (.ListComp elt [⟨g,iter,ifs,0⟩] scope pos) ao) (.comp x t it src conds):=by
 intro ai Z s Y ak h I;rw[eval_ListComp];refine comp_any (use:=none) cg hz hh en ok hi hI hfold hX hC h I (fun j0_ j1_ x=>x) fun D C s' own' Z' X fr' m ho I' S' R' LC hm hDC=>?_;subst ho;refine⟨m,hm,fun h' hs=>?_⟩;refine hidG fun G g1=>?_;obtain⟨a,q,R'⟩:=R';cases q;have kp:∀b o, ¬b=C→s'.heap.get? b=some o→h'.get? b=some o:=fun b o q e=>hs.extBut b o q e;have hXX:∀b,b=C→ ¬y.wr own' b∧ ¬y.F b∧ ¬Z' b:=fun b q=>by subst q;exact⟨LC.2.1,LC.2.2.1,LC.2.2.2.1⟩
 exact g1<|⟨_,own',Z',rfl,I'.other hXX kp,S'.other (ag:=fun b=>b=C) (fun b q=>⟨q▸LC.1,(hXX b q).1⟩) kp,_,rfl,R'.1,R'.2.1,R'.2.2.1,R'.2.2.2.1,R'.2.2.2.2.mono (fun a o z=>kp a o fun q=>(hXX a q).2.2 z) (fun j0_ z=>z) fun o e=>kp _ o hDC e⟩
end
end Mv
end
section
set_option backward.match.sparseCases false
namespace Mv
open PySem PyProof.Rows
variable [Hp]
theorem F2.imp{P Q:Expr→Ex→Prop}(h:∀e x,P e x→Q e x) :∀{es:az}{M:List Ex},F2 P es M→F2 Q es M
 | [],[]=>@fun j0_=>trivial
 | _::_,_::_=>@fun F=>⟨h _ _ F.1,F.2.1,F.2.2.imp h⟩
 | [],_::_=>@fun F=>F.elim
 | _::_,[]=>@fun F=>F.elim
theorem noPl_ap{x:Ex}{bv:aw}(h:x.noPl=true) :Apart x bv:=by intro i hi;cases x with
 | pl p=>exact tf h
 | _=>exact nomatch hi
section
variable {A:Around}{c:Cfg}{n:Nat}
noncomputable abbrev M1(A:Around)(c:Cfg)(V:Sc)(e:Expr)(x:Ex) :Prop:= ∀(ao:Env)(y:Lay),EnvOk A V ao y→SE A c y (eval e ao) x∧ST A c y (isTrue e ao<|eval e ao) x
noncomputable abbrev M2(A:Around)(c:Cfg)(V:Sc)(es:az)(M:List Ex) :Prop:= ∀(ao:Env)(y:Lay),EnvOk A V ao y→F2 (fun e x=>CE V e x∧SE A c y (eval e ao) x∧ST A c y (isTrue e ao<|eval e ao) x) es M
noncomputable abbrev M3(A:Around)(c:Cfg)(V:Sc)(o:Option Expr)(x:Ex) :Prop:= ∀(ao:Env)(y:Lay),EnvOk A V ao y→SE A c y (evalPart o ao) x
noncomputable abbrev M4(A:Around)(c:Cfg)(V:Sc)(e:Expr)(it:Itk)(src:List Ex) :Prop:= ∀(ao:Env)(y:Lay),EnvOk A V ao y→SI A c y (eval e ao) it src
noncomputable def MM(A:Around)(c:Cfg)(V:Sc) :Sy→Prop
 | .e e x=>M1 A c V e x
 | .s es M=>M2 A c V es M
 | .o o x=>M3 A c V o x
 | .i e it src=>M4 A c V e it src
theorem sound_all(R:Rn A c n) :∀V q,CQ V q→MM A c V q:=by
 have both:∀{V:Sc}{e:Expr}{x:Ex},(∀ao y,EnvOk A V ao y→SE A c y (eval e ao) x)→(∀ao,isTrue e ao (eval e ao)=(do let v ← eval e ao;standAt e.pos;holding [v] (truthy v)))→M1 A c V e x:=
  fun H he ao y en=>⟨H ao y en,.of (H ao y en)<|he ao⟩
 have p2:∀{V:Sc}{es:az}{M:List Ex}{ao:Env}{y:Lay},F2 (fun e x=>CE V e x∧SE A c y (eval e ao) x∧ST A c y (isTrue e ao<|eval e ao) x) es M→F2 (fun e x=>CE V e x∧SE A c y (eval e ao) x) es M:=fun F=>F.imp fun j0_ j1_ h=>⟨h.1,h.2.1⟩
 have pe:∀{V:Sc}{es:az}{M:List Ex}{ao:Env}{y:Lay},F2 (fun e x=>CE V e x∧SE A c y (eval e ao) x∧ST A c y (isTrue e ao<|eval e ao) x) es M→F2 (fun e x=>SE A c y (eval e ao) x) es M:=fun F=>F.imp fun j0_ j1_ h=>h.2.1;have pt:∀{V:Sc}{es:az}{M:List Ex}{ao:Env}{y:Lay},F2 (fun e x=>CE V e x∧SE A c y (eval e ao) x∧ST A c y (isTrue e ao<|eval e ao) x) es M→F2 (fun e x=>ST A c y (isTrue e ao<|eval e ao) x) es M:=fun F=>F.imp fun j0_ j1_ h=>h.2.2;have c_lit:∀{V:Sc}{k:Const}{kk:Nat}{pos:Pos}{d:D}(a:ConstIs k d),M1 A c V (.Constant k kk pos) (.lit d):=fun a=>both (fun ao y en=>se_lit a) fun j0_=>rfl;have c_var:∀{V:Sc}{x:Str}{pos:Pos}{i:Nat}(a:V.isV x i),M1 A c V (.Name x pos) (.var i):=fun a=>both (fun ao y en=>se_var en a) fun j0_=>rfl;have c_pl:∀{V:Sc}{x:Str}{pos:Pos}{i:Nat}(a:V.isV x i),M1 A c V (.Name x pos) (.pl<|.var i):=fun a=>both (fun ao y en=>se_pl en a) fun j0_=>rfl;have c_gl:∀{V:Sc}{x:Str}{pos:Pos}{k:Nat}(a:V.isG x)(b:tb.gl[k]?=some x),M1 A c V (.Name x pos) (.gl k):=fun a b=>both (fun ao y en=>se_gl R en a b) fun j0_=>rfl;have c_tup:∀{V:Sc}{es:az}{k:Nat}{pos:Pos}{M:List Ex}(a:CEs V es M)(b:M.length≤1000),M2 A c V es M→M1 A c V (.Tuple es k pos) (.tup M):=fun a b ih=>both (fun ao y en=>se_tup (p2<|ih ao y en) b) fun j0_=>rfl;have c_list:∀{V:Sc}{es:az}{pos:Pos}{M:List Ex}(a:CEs V es M)(b:M.length≤1000),M2 A c V es M→M1 A c V (.List es pos) (.list M):=fun a b ih=>both (fun ao y en=>se_list (p2<|ih ao y en) b) fun j0_=>rfl;have c_op2:∀{V:Sc}{a b:Expr}{pos:Pos}{o:Op2}{x z:Ex}(h1:CE V a x)(h2:CE V b z)(h3:Apart x (bvE z)),M1 A c V a x→M1 A c V b z→M1 A c V (.BinOp a (opOf o) b pos) (.op2 o x z):=
  fun h1 h2 h3 i1 i2=>both (fun ao y en=>se_op2 (i1 ao y en).1 (i2 ao y en).1 h3) fun j0_=>rfl
 have c_neg:∀{V:Sc}{a:Expr}{pos:Pos}{x:Ex}(h1:CE V a x),M1 A c V a x→M1 A c V (.UnaryOp .USub a pos) (.neg x):=fun h1 i1=>both (fun ao y en=>se_neg (i1 ao y en).1) fun j0_=>rfl;have c_not:∀{V:Sc}{a:Expr}{pos:Pos}{x:Ex}(h1:CE V a x),M1 A c V a x→M1 A c V (.UnaryOp .Not a pos) (.not x):=fun h1 i1 ao y en=>⟨se_not (i1 ao y en).1,st_not (i1 ao y en).2⟩
 have c_cmp:∀{V:Sc}{a b:Expr}{pos:Pos}{o:Cm}{x z:Ex}(h1:CE V a x)(h2:CE V b z)(h3:Apart x (bvE z)),M1 A c V a x→M1 A c V b z→M1 A c V (.Compare a [cmOp o] [b] pos) (.cmp o x z):=
  fun h1 h2 h3 i1 i2 ao y en=>⟨se_cmp R (i1 ao y en).1 (i2 ao y en).1 h3<|h2.noSet _,st_cmp R (i1 ao y en).1 (i2 ao y en).1 h3<|h2.noSet _⟩
 have c_cmp2:∀{V:Sc}{a b e:Expr}{pos:Pos}{o p:Cm}{x z u:Ex}(h1:CE V a x)(h2:CE V b z)(h3:CE V e u),M1 A c V a x→M1 A c V b z→M1 A c V e u→M1 A c V (.Compare a [cmOp o,cmOp p] [b,e] pos) (.cmp2 o p x z u):=
  fun h1 h2 h3 i1 i2 i3 ao y en=>⟨se_cmp2 R (i1 ao y en).1 (i2 ao y en).1 (i3 ao y en).1<|h3.noSet _,st_cmp2 R (i1 ao y en).1 (i2 ao y en).1 (i3 ao y en).1<|h3.noSet _⟩
 have c_ite:∀{V:Sc}{t a b:Expr}{pos:Pos}{x z u:Ex}(h1:CE V t x)(h2:CE V a z)(h3:CE V b u),M1 A c V t x→M1 A c V a z→M1 A c V b u→M1 A c V (.IfExp t a b pos) (.ite x z u):=
  fun h1 h2 h3 i1 i2 i3 ao y en=>⟨se_ite (i1 ao y en).2 (i2 ao y en).1 (i3 ao y en).1,st_ite (i1 ao y en).2 (i2 ao y en).2 (i3 ao y en).2⟩
 have c_bo:∀{V:Sc}{j:Bool}{es:az}{pos:Pos}{M:List Ex}(a:CEs V es M),M2 A c V es M→M1 A c V (.BoolOp (bOp j) es pos) (.bo j M):=fun a ih ao y en=>⟨se_bo<|pe<|ih ao y en,st_bo<|pt<|ih ao y en⟩
 have c_idx:∀{V:Sc}{a i:Expr}{pos:Pos}{x z:Ex}(h1:CE V a x)(h2:CE V i z)(h3:Apart x (bvE z)),M1 A c V a x→M1 A c V i z→M1 A c V (.Subscript a i pos) (.idx x z):=
  fun h1 h2 h3 i1 i2=>both (fun ao y en=>se_idx (i1 ao y en).1 (i2 ao y en).1 h3 h2.isPlain) fun j0_=>rfl
 have c_slc:∀{V:Sc}{a:Expr}{lo hi:Option Expr}{p pos:Pos}{x l u:Ex}(h1:CE V a x)(h2:CEo V lo l)(h3:CEo V hi u)(h4:Apart x (bvE l++bvE u)),M1 A c V a x→M3 A c V lo l→M3 A c V hi u→M1 A c V (.Subscript a (.Slice lo hi none p) pos) (.slc x l u):=
  fun h1 h2 h3 h4 i1 i2 i3=>both (fun ao y en=>se_slc (i1 ao y en).1 (i2 ao y en) (i3 ao y en) h4) fun j0_=>rfl
 have c_call:∀{V:Sc}{f:Nat}{d:DefRec}{p pos:Pos}{args:az}{M:List Ex}(h1:tb.fn[f]?=some d∧f<tb.m0)(h2:V.isG d.name)(h3:CEs V args M)(h4:args.length≤29),M2 A c V args M→M1 A c V (.Call (.Name d.name p) args [] pos) (.call f M):=
  fun h1 h2 h3 h4 ih=>both (fun ao y en=>se_call R en h1 h2<|p2<|ih ao y en) fun j0_=>rfl
 have c_bi1:∀{V:Sc}{b:Bi}{p pos:Pos}{a:Expr}{x:Ex}(h1:b.one=true)(h2:V.isG (biName b))(h3:CE V a x),M1 A c V a x→M1 A c V (.Call (.Name (biName b) p) [a] [] pos) (.bi b [x]):=
  fun h1 h2 h3 i1=>both (fun ao y en=>se_bi1 R en h1 h2 h3 (i1 ao y en).1) fun j0_=>rfl
 have c_isi:∀ {V:Sc} {t:Ty} {p p' pos:Pos} {a:Expr} {x:Ex} (h1:V.isG "isinstance") (h2:V.isG (tyName t)) (h3:CE V a x),M1 A c V a x→M1 A c V (.Call (.Name "isinstance" p) [a,.Name (tyName t) p'] [] pos) (.bi (.isi t) [x]):=
  fun h1 h2 h3 i1=>both (fun ao y en=>se_isi R en h1 h2 h3 (i1 ao y en).1) fun j0_=>rfl
 have c_comp:∀{V:Sc}{elt iter g:Expr}{vs:ax}{t:Tgt}{pos:Pos}{ifs:az}{scope:Scope}{i:Nat}{it:Itk}{src conds:List Ex}{x:Ex}(h0:CG i g vs t)(hz:it.pairs=true→t.isTup=true)(h1:IT V iter it src)(h2:CompOk scope V vs)(h3:V.hi≤i)(h4:CE (compSc scope V vs i) elt x)(h5:CEs (compSc scope V vs i) ifs conds)(h6:∀j∈tgtVars t,j∉bvE x∧j∉bvEs conds),
   M4 A c V iter it src→M1 A c (compSc scope V vs i) elt x→M2 A c (compSc scope V vs i) ifs conds→M1 A c V (.ListComp elt [⟨g,iter,ifs,0⟩] scope pos) (.comp x t it src conds):=
  fun h0 hz h1 h2 h3 h4 h5 h6 i1 i2 i3=>both (fun ao y en=>se_comp h0 hz R.hh en h2 h3 (i1 ao y en) (h1.noFold ao) (fun ao y en=>(i2 ao y en).1) fun ao y en=>pt<|i3 ao y en) fun j0_=>rfl
 have c_disp:∀{V:Sc}{kes:List (Option Expr)}{ks:ax}{vals:az}{M:List Ex}{pos:Pos}(h1:KS kes ks)(h2:CEs V vals M)(h3:ks.Nodup∧KOk ks)(h4:ks.length=M.length)(h5:ks≠ []∧ks.length≤15)(h6:M.all Ex.noPl=true),M2 A c V vals M→M1 A c V (.Dict kes vals pos) (.bi (.disp ks) M):=
  fun h1 h2 h3 h4 h5 h6 ih=>both (fun ao y en=>se_disp R h1 (p2<|ih ao y en) h3 h4 h5 h6) fun j0_=>rfl
 have c_dis1:∀{V:Sc}{k v:Expr}{x z:Ex}{pos:Pos}(h1:CE V k x)(h2:CE V v z)(h3:Ex.noPl x=true∧Ex.noPl z=true),M1 A c V k x→M1 A c V v z→M1 A c V (.Dict [some k] [v] pos) (.bi .dis1 [x,z]):=
  fun h1 h2 h3 i1 i2=>both (fun ao y en=>se_dis1 R (i1 ao y en).1 (i2 ao y en).1 h3) fun j0_=>rfl
 have c_bx:∀{V:Sc}{e:Expr}{b:Bi}{es:az}{M:List Ex}(h1:BX V e b es)(h2:CEs V es M),M2 A c V es M→M1 A c V e (.bi b M):=
  fun h1 h2 ih=>both (fun ao y en=>se_bx R en h1<|p2<|ih ao y en) fun j0_=>by cases h1 <;> rfl
 have c_nil:∀{V:Sc},M2 A c V [] []:=fun ao y en=>trivial;have c_cons:∀{V:Sc}{e:Expr}{es:az}{x:Ex}{M:List Ex}(h1:CE V e x)(h2:CEs V es M)(h3:Apart x (bvEs M)),M1 A c V e x→M2 A c V es M→M2 A c V (e::es) (x::M):=
  fun h1 h2 h3 i1 i2 ao y en=>⟨⟨h1,i1 ao y en⟩,h3,i2 ao y en⟩
 have c_none:∀{V:Sc},M3 A c V none (.lit .none):=fun {V} ao y en ai Z s Y ak h I=>by exact O (sos h).symm<|wpAny_evalPart_none<|.val I .refl .none
 have c_some:∀ {V:Sc} {e:Expr} {x:Ex} (h1:CE V e x),M1 A c V e x→M3 A c V (some e) x:=fun h1 i1 ao y en ai Z s Y ak h I=>wpAny_evalPart_some ((i1 ao y en).1 ai Z s Y ak h I);have c_seq:∀ {V:Sc} {e:Expr} {x:Ex} (h1:CE V e x),M1 A c V e x→M4 A c V e .seq [x]:=fun h1 i1 ao y en=>si_seq R (i1 ao y en).1;have c_range:∀ {V:Sc} {p pos:Pos} {e:Expr} {x:Ex} (h0:V.isG "range") (h1:CE V e x),M1 A c V e x→M4 A c V (.Call (.Name "range" p) [e] [] pos) .range [x]:=fun h0 h1 i1 ao y en=>si_range R en h0 h1 (i1 ao y en).1;have c_avar:∀ {V:Sc} {x a:Str} {p pos:Pos} {i:Nat} (h:V.isA x a i),M1 A c V (.Attribute (.Name x p) a pos) (.var i):=fun h=>both (fun ao y en=>se_avar R en h) fun j0_=>rfl;have c_apl:∀ {V:Sc} {x a:Str} {p pos:Pos} {i:Nat} (h:V.isA x a i),M1 A c V (.Attribute (.Name x p) a pos) (.pl (.var i)):=fun h=>both (fun ao y en=>se_apl R en h) fun j0_=>rfl;have c_mcall:∀ {V:Sc} {f:Nat} {d:DefRec} {x:Str} {p ap pos:Pos} {args:az} {M:List Ex} (h1:tb.fn[f]?=some d∧tb.m0≤f∧kf f=V.k∧tb.rb[f-tb.m0]?=some []) (h2:x=V.sn∧(x == ("__debug__" :Str))=false∧V.ats≠ []) (h3:(ap.endLine == pos.line)=true) (h4:CEs V args M) (h5:args.length≤28),M2 A c V args M→M1 A c V (.Call (.Attribute (.Name x p) d.name ap) args [] pos) (.mcall f V.as M):=
  fun h1 h2 h3 h4 h5 ih=>both (fun ao y en=>se_mcall R en h1 h2 h3 (p2<|ih ao y en) h5) fun j0_=>rfl
 have c_pop:∀ {V:Sc} {o:Expr} {ap pos:Pos} {i:Nat} (h1:PE V o i) (h2:(ap.endLine == pos.line)=true),M1 A c V (.Call (.Attribute o "pop" ap) [] [] pos) (.pop (.var i)):=fun h1 h2=>both (fun ao y en=>se_pop R en h1 h2) fun j0_=>rfl;have c_rev:∀ {V:Sc} {p pos:Pos} {e:Expr} {x:Ex} (h0:V.isG "reversed") (h1:CE V e x),M1 A c V e x→M4 A c V (.Call (.Name "reversed" p) [e] [] pos) .rev [x]:=fun h0 h1 i1 ao y en=>si_rev R en h0 h1 (i1 ao y en).1;have c_range3:∀ {V:Sc} {p pos:Pos} {a b e:Expr} {x z u:Ex} (h0:V.isG "range") (h1:CE V a x) (h2:CE V b z) (h3:CE V e u) (h4:Ex.noPl x=true∧Ex.noPl z=true),M1 A c V a x→M1 A c V b z→M1 A c V e u→M4 A c V (.Call (.Name "range" p) [a,b,e] [] pos) .range3 [x,z,u]:=
  fun h0 h1 h2 h3 h4 i1 i2 i3 ao y en=>si_range3 R en h0 ⟨⟨h1,(i1 ao y en).1⟩,noPl_ap h4.1,⟨h2,(i2 ao y en).1⟩,noPl_ap h4.2,⟨h3,(i3 ao y en).1⟩,(fun j0_ j1_ q=>by exact nomatch q),trivial⟩
 have c_tin:∀{V:Sc}{s a x:Str}{p ap px pos:Pos}{i j:Nat}(h1:V.isV x j)(h2:V.isA s a i),M1 A c V (.Compare (.Name x px) [.NotIn] [.Attribute (.Name s p) a ap] pos) (.tin i<|.var j):=fun h1 h2 ao y en=>⟨se_tin R en h1 h2,st_tin R en h1 h2⟩
 have c_tget:∀ {V:Sc} {s a x:Str} {p ap px pos:Pos} {i j:Nat} (h1:V.isV x j) (h2:V.isA s a i),M1 A c V (.Subscript (.Attribute (.Name s p) a ap) (.Name x px) pos) (.tget i (.var j)):=fun h1 h2=>both (fun ao y en=>se_tget R en h1 h2) fun j0_=>rfl;have c_zip:∀ {V:Sc} {p pos:Pos} {a b:Expr} {x z:Ex} (h0:V.isG "zip") (h1:CE V a x) (h2:CE V b z) (h3:Apart x (bvE z)),M1 A c V a x→M1 A c V b z→M4 A c V (.Call (.Name "zip" p) [a,b] [] pos) .zip [x,z]:=
  fun h0 h1 h2 h3 i1 i2 ao y en=>si_zip R en h0 ⟨⟨h1,(i1 ao y en).1⟩,(fun i h q=>h3 i h<|(List.mem_append.mp q).resolve_right List.not_mem_nil),⟨h2,(i2 ao y en).1⟩,(fun j0_ j1_ q=>by exact nomatch q),trivial⟩
 have c_enum:∀ {V:Sc} {p pos:Pos} {e:Expr} {x:Ex} (h0:V.isG "enumerate") (h1:CE V e x),M1 A c V e x→M4 A c V (.Call (.Name "enumerate" p) [e] [] pos) .enum [x]:=fun h0 h1 i1 ao y en=>si_enum R en h0 h1 (i1 ao y en).1;exact fun V q h=>@CQ.rec (fun V q j0_=>MM A c V q) c_lit c_var c_pl c_gl c_tup c_list c_op2 c_neg c_not c_cmp c_cmp2 c_ite c_bo c_idx c_slc c_call c_bi1 c_isi c_comp c_disp c_dis1 c_bx c_avar c_apl c_mcall c_pop c_tin c_tget c_nil c_cons c_none c_some c_seq c_range c_range3 c_rev c_zip c_enum V q h
end
end Mv
end
section
set_option backward.match.sparseCases false
namespace Mv
open PySem PyProof.Rows
class inductive TGs(V:Sc) :az→aw→Prop
 | nil:TGs V [] []
 | cons {x:Str} {p:Pos} {i:Nat} {es:az} {is:aw} :V.isV x i→TGs V es is→TGs V (.Name x p::es) (i::is)
inductive TG(V:Sc) :Expr→Tgt→Prop
 | one {x:Str} {p:Pos} {i:Nat} :V.isV x i→TG V (.Name x p) (.one i)
 | tup {es:az} {is:aw} {k:Nat} {p:Pos} :TGs V es is→TG V (.Tuple es k p) (.tup is)
inductive Sw where
 | st (s:Stmt) (z:St)
 | ss (ss:List Stmt) (zs:List St)
noncomputable def newAs(V:Sc) :aw:=(List.range tb.an.length).map fun k=>V.hi+k
noncomputable def newSc(V:Sc)(k:Nat)(x:Str) :Sc:= {V with sn:=x,ats:=tb.an.zip<|newAs V,hi:=V.hi+tb.an.length+1,k:=k}
inductive HV:Expr→D→Prop
 | one {k:Const} {kk:Nat} {pos:Pos} {d:D} :ConstIs k d→HV (.Constant k kk pos) d
 | two {k k':Const} {kk kk' kt:Nat} {p p' pos:Pos} {d d':D} :ConstIs k d→ConstIs k' d'→HV (.Tuple [.Constant k kk p,.Constant k' kk' p'] kt pos) (.tuple [d,d'])
inductive HS(V:Sc) :List ExceptHandler→List (Str×ax×D)→Prop
 | nil:HS V [] []
 | cons {cn:Str} {p rp hp:Pos} {e:Expr} {d:D} {hs:List ExceptHandler} {M:List (Str×ax×D)} :V.isG cn→cn∈tb.hc∧(tb.hb cn).all tb.cl.contains=true→HV e d→HS V hs M→HS V (.ExceptHandler (some<|.Name cn p) none [.Return (some e) rp] hp::hs) ((cn,tb.hb cn,d)::M)
class inductive CT:Sc→Sw→Prop
 | asg {V:Sc} {x:Str} {p pos:Pos} {value:Expr} {i:Nat} {e:Ex} :V.isV x i→CE V value e→CT V (.st (.Assign [.Name x p] value pos)<|.asg (.one i) e)
 | asgA {V:Sc} {x a:Str} {p p' pos:Pos} {value:Expr} {i:Nat} {e:Ex} :V.isA x a i→CE V value e→noComp value=true→CT V (.st (.Assign [.Attribute (.Name x p) a p'] value pos)<|.asg (.one i) e)
 | setI {V:Sc} {o:Expr} {p' pos:Pos} {value idx:Expr} {i:Nat} {e k:Ex} :PE V o i→CE V value e→CE V idx k→CT V (.st (.Assign [.Subscript o idx p'] value pos)<|.setI (.var i) k e)
 | app {V:Sc} {o:Expr} {apos pos pos':Pos} {e:Expr} {i:Nat} {z:Ex} :PE V o i→CE V e z→(apos.endLine == pos.line)=true→CT V (.st (.Expr (.Call (.Attribute o "append" apos) [e] [] pos) pos') (.app (.var i) z))
 | tab0 {V:Sc} {x a:Str} {p p' dp pos:Pos} {i:Nat} :V.isA x a i→CT V (.st (.Assign [.Attribute (.Name x p) a p'] (.Dict [] [] dp) pos)<|.tab0 i)
 | tset {V:Sc} {x a z:Str} {p ap pz p' pos:Pos} {value:Expr} {i j:Nat} {e:Ex} :V.isA x a i→V.isV z j→CE V value e→CT V (.st (.Assign [.Subscript (.Attribute (.Name x p) a ap) (.Name z pz) p'] value pos)<|.tset i (.var j) e)
 | exp {V:Sc} {e:Expr} {pos:Pos} {z:Ex} :CE V e z→noComp e=true→CT V (.st (.Expr e pos)<|.exp z)
 | rev {V:Sc} {o:Expr} {apos pos pos':Pos} {i:Nat} :PE V o i→(apos.endLine == pos.line)=true→CT V (.st (.Expr (.Call (.Attribute o "reverse" apos) [] [] pos) pos') (.rev (.var i)))
 | mst {V:Sc} {f:Nat} {d:DefRec} {x:Str} {p ap pos pos':Pos} {args:az} {M:List Ex} :tb.fn[f]?=some d∧tb.m0≤f∧kf f=V.k→x=V.sn∧(x == ("__debug__" :Str))=false∧V.ats≠ []→(ap.endLine == pos.line)=true→CEs V args M→args.length≤28→CT V (.st (.Expr (.Call (.Attribute (.Name x p) d.name ap) args [] pos) pos') (.mst f V.as (rbA (rbF f) V.as) M))
 | iff {V:Sc} {t:Expr} {a b:List Stmt} {pos:Pos} {z:Ex} {xa xb:List St} :CE V t z→CT V (.ss a xa)→CT V (.ss b xb)→CT V (.st (.If t a b pos)<|.iff z xa xb)
 | ret {V:Sc} {e:Expr} {pos:Pos} {z:Ex} :CE V e z→CT V (.st (.Return (some e) pos)<|.ret z)
 | retI {V:Sc} {t a b:Expr} {p pos:Pos} {z x y:Ex} :CE V t z→CE V a x→CE V b y→CT V (.st (.Return (some<|.IfExp t a b p) pos)<|.iff z [.ret x] [.ret y])
 | for1 {V:Sc} {g:Expr} {pos:Pos} {iter:Expr} {body:List Stmt} {t:Tgt} {it:Itk} {src:List Ex} {xb:List St} {tmp:aw} :TG V g t→(it.pairs=true→t.isTup=true)→IT V iter it src→CT V (.ss body xb)→CT V (.st (.For g iter body [] pos)<|.for_ t it src xb tmp)
 | whl {V:Sc} {t:Expr} {body:List Stmt} {pos:Pos} {z:Ex} {xb:List St} {tmp:aw} :CE V t z→CT V (.ss body xb)→CT V (.st (.While t body [] pos)<|.whl z xb tmp)
 | raise {V:Sc} {k msg:Str} {np cpos pos ap:Pos} {kk:Nat} :V.isG k→k∈tb.cl→CT V (.st (.Raise (some<|.Call (.Name k np) [.Constant (.str msg) kk ap] [] cpos) none pos)<|.raise k)
 | tryx {V:Sc} {pos:Pos} {body:List Stmt} {hs:List ExceptHandler} {xb:List St} {M:List (Str×ax×D)} :CT V (.ss body xb)→HS V hs M→hs≠ []→CT V (.st (.Try body hs [] [] pos)<|.tryx xb M)
 | asgT {V:Sc} {es:az} {is:aw} {k:Nat} {p pos:Pos} {value:Expr} {e:Ex} :TGs V es is→CE V value e→noComp value=true→noTup value=true→CT V (.st (.Assign [.Tuple es k p] value pos)<|.asg (.tup is) e)
 | no {V:Sc} {s:Stmt} :CT V (.st s .no)
 | nil {V:Sc} :CT V (.ss [] [])
 | cons {V:Sc} {s:Stmt} {ss:List Stmt} {z:St} {zs:List St} :CT V (.st s z)→CT V (.ss ss zs)→CT V (.ss (s::ss) (z::zs))
 | new {V:Sc} {c:ClsRec} {x:Str} {p np cpos pos:Pos} {args:az} {M:List Ex} {rest:List Stmt} {body:List St} {k:Nat} :tb.cr k=some c∧k < 2→V.isG c.name→V.ats=[]∧V.names.lookup x=some .local∧V.vars.lookup x=none∧(x == ("__debug__" :Str))=false→CEs V args M→args≠ []∧(∃d,tb.fn[mi k]?=some d∧d.name = "__init__")→
   CT (newSc V k x) (.ss rest body)→CT V (.ss (.Assign [.Name x p] (.Call (.Name c.name np) args [] cpos) pos::rest) [.new (mi k) (newAs V) M body])
noncomputable abbrev CS(V:Sc)(s:Stmt)(z:St) :Prop:=CT V<|.st s z
noncomputable abbrev CSs(V:Sc)(ss:List Stmt)(zs:List St) :Prop:=CT V<|.ss ss zs
variable [Hp]
theorem CG.le{i j:Nat}{g:Expr}{vs:ax}{t:Tgt}(h:CG i g vs t)(hj:j∈tgtVars t) :i≤j:=by cases h with
 | one=>exact Nat.le_of_eq (List.mem_singleton.mp hj).symm
 | two=>exact(List.mem_cons.mp hj).elim (fun q=>Nat.le_of_eq q.symm) fun q=>List.mem_singleton.mp q▸Nat.le_succ i
noncomputable def bvQ:Sy→aw
 | .e _ x=>bvE x
 | .s _ M=>bvEs M
 | .o _ x=>bvE x
 | .i _ _ src=>bvEs src
theorem bv_hi:∀V q,CQ V q→ ∀j∈bvQ q,V.hi≤j:=by
 have nil:∀{V:Sc}{j:Nat},j∈([] :aw)→V.hi≤j:=fun h=>by cases h
 have app:∀{V:Sc}{a b:aw},(∀j∈a,V.hi≤j)→(∀j∈b,V.hi≤j)→ ∀j∈a++b,V.hi≤j:=fun h1 h2 j hj=>(List.mem_append.mp hj).elim (h1 j)<|h2 j;have comp:∀{V:Sc}{elt iter g:Expr}{vs:ax}{t:Tgt}{ifs:az}{scope:Scope}{i:Nat}{it:Itk}{src conds:List Ex}{x:Ex}(h0:CG i g vs t)(hz:it.pairs=true→t.isTup=true)(h1:IT V iter it src)(h2:CompOk scope V vs)(h3:V.hi≤i)(h4:CE (compSc scope V vs i) elt x)(h5:CEs (compSc scope V vs i) ifs conds)(h6:∀j∈tgtVars t,j∉bvE x∧j∉bvEs conds),
   (∀j∈bvEs src,V.hi≤j)→(∀j∈bvE x,(compSc scope V vs i).hi≤j)→(∀j∈bvEs conds,(compSc scope V vs i).hi≤j)→ ∀j∈bvE (.comp x t it src conds),V.hi≤j:=fun {V _ _ _ vs _ _ scope i _ _ _ _} h0 hz h1 h2 h3 h4 h5 h6 i1 i2 i3=>by
  have up:∀j,(compSc scope V vs i).hi≤j→V.hi≤j:=fun j h=>Nat.le_trans h3<|Nat.le_trans (Nat.le_add_right i _) h;exact app (app (app (fun j hj=>Nat.le_trans h3<|h0.le hj) fun j hj=>up j<|i2 j hj) i1) fun j hj=>up j<|i3 j hj
 exact fun V q h=>@CQ.rec (fun V q j0_=> ∀j∈bvQ q,V.hi≤j) (fun j0_ j hj=>nil hj) (fun j0_ j hj=>nil hj) (fun j0_ j hj=>nil hj) (fun j0_ j1_ j hj=>nil hj) (fun j0_ j1_ a=>a) (fun j0_ j1_ a=>a) (fun j0_ j1_ j2_ a b=>app a b) (fun j0_ a=>a) (fun j0_ a=>a) (fun j0_ j1_ j2_ a b=>app a b) (fun j0_ j1_ j2_ a b e=>app (app a b) e) (fun j0_ j1_ j2_ a b e=>app (app a b) e) (fun j0_ a=>a) (fun j0_ j1_ j2_ a b=>app a b) (fun j0_ j1_ j2_ j3_ a b e=>app (app a b) e) (fun j0_ j1_ j2_ j3_ a=>a) (fun j0_ j1_ j2_ a=>app a fun j0_ h=>nil h) (fun j0_ j1_ j2_ a=>app a fun j0_ h=>nil h) comp (fun j0_ j1_ j2_ j3_ j4_ j5_ a=>a) (fun j0_ j1_ j2_ a b=>app a<|app b fun j0_ h=>nil h) (fun j0_ j1_ a=>a) (fun j0_ j hj=>nil hj) (fun j0_ j hj=>nil hj) (fun j0_ j1_ j2_ j3_ j4_ a=>a) (fun j0_ j1_ j hj=>nil hj) (fun j0_ j1_ j hj=>nil hj) (fun j0_ j1_ j hj=>nil hj) (fun j hj=>nil hj) (fun j0_ j1_ j2_ a b=>app a b) (fun j hj=>nil hj) (fun j0_ a=>a) (fun j0_ a=>app a fun j0_ h=>nil h) (fun j0_ j1_ a=>app a fun j0_ h=>nil h) (fun j0_ j1_ j2_ j3_ j4_ a b e=>app a<|app b<|app e fun j0_ h=>nil h) (fun j0_ j1_ a=>app a fun j0_ h=>nil h) (fun j0_ j1_ j2_ j3_ a b=>app a<|app b fun j0_ h=>nil h) (fun j0_ j1_ a=>app a fun j0_ h=>nil h) V q h
section
variable {A:Around}{c:Cfg}{n:Nat}{ao:Env}{V:Sc}{y:Lay}
 {bv bv':aw} {ai own₁ own₀ own':Addr→Option Nat} {Z Z₁ Z₀ Z':Addr→Prop} {s s₁ s₀ s':Shared} {Y fr₁:Fm}
theorem Step.strong(S:Step y bv ai Z s own' Z' s')(en:EnvOk A V ao y)(h:∀j∈bv,V.hi≤j) :Step y [] ai Z s own' Z' s':=
 {S with bind:=fun i l v j0_ hl r=>S.bind i l v (fun q=>by have:=h i q;have:=en.hi i l hl;exact(Lf [V.3,i] [Gl .x .y,Gl (.p 1 .y) .x] rfl ‹V.hi≤i› this)) hl r}
theorem PostX.strong{β:Type}{ak:aA β×Fm}{v:Value}{bvx:aw}(en:EnvOk A V ao y)(h:∀j∈bvx,V.hi≤j)(S:Step y bv own₀ Z₀ s₀ ai Z s)(x:PostX y bvx ai Z s ak v s') :PostX y bv own₀ Z₀ s₀ ak v s':=by obtain⟨nm,a,own',Z',q,e1,I,S',ag⟩:=x;exact⟨nm,a,own',Z',q,e1,I,S.trans ((S'.strong en h).sub fun j0_ h=>by cases h),ag.mono fun b j0_ j1_ h=>⟨S.old b h.1,h.2⟩⟩
noncomputable def FlowIs(y:Lay)(s₀:Shared)(own':Addr→Option Nat)(Z':Addr→Prop)(s':Shared)(f:Flow) :Ctl→Prop
 | .next=>f = .next
 | .ret r=> ∃v,f = .ret v∧RvAt y own' Z' s₀.heap s'.heap r v∧ ∃d,rvV r=some d
inductive PostS(y:Lay)(bv:aw)(s₀:Shared)(ai:Addr→Option Nat)(Z:Addr→Prop)(s:Shared)(ak:aA Ctl×Fm)(f:Flow)(s':Shared) :Prop
 | mk (k:Ctl) (own':Addr→Option Nat) (Z':Addr→Prop) :ak.1 = .ok k→Inv y own' Z' s'.heap ak.2→Step y bv ai Z s own' Z' s'→FlowIs y s₀ own' Z' s' f k→PostS y bv s₀ ai Z s ak f s'
noncomputable def SS(A:Around)(c:Cfg)(y:Lay)(bv:aw)(own₀:Addr→Option Nat)(Z₀:Addr→Prop)(s₀:Shared)(m:Sem Flow)(z:List St) :Prop:=
 ∀(ai:Addr→Option Nat)(Z:Addr→Prop)(s:Shared)(Y:Fm)(ak:aA Ctl×Fm),exSs c z Y=some ak→Inv y ai Z s.heap Y→Step y bv own₀ Z₀ s₀ ai Z s→wpAny (model prog w) A m (PostS y bv s₀ ai Z s ak) (PostX y bv ai Z s ak) s
noncomputable def SS1(A:Around)(c:Cfg)(y:Lay)(bv:aw)(own₀:Addr→Option Nat)(Z₀:Addr→Prop)(s₀:Shared)(m:Sem Flow)(z:St) :Prop:=
 ∀(ai:Addr→Option Nat)(Z:Addr→Prop)(s:Shared)(Y:Fm)(ak:aA Ctl×Fm),exS c z Y=some ak→Inv y ai Z s.heap Y→Step y bv own₀ Z₀ s₀ ai Z s→wpAny (model prog w) A m (PostS y bv s₀ ai Z s ak) (PostX y bv ai Z s ak) s
theorem seqS{β:Type}{e:Expr}{x:Ex}{k:Rv→Fm→Out β}{ak:aA β×Fm}{Q:Value→Shared→Prop}(en:EnvOk A V ao y)(ce:CE V e x)(H:SE A c y (eval e ao) x)(hk:bndK (ev c x Y) k=some ak)(I:Inv y ai Z s.heap Y)(S:Step y bv own₀ Z₀ s₀ ai Z s)
  (K:∀r fr₂ own₂ Z₂ s₂ v,ev c x Y=some (.ok r,fr₂)→k r fr₂=some ak→Inv y own₂ Z₂ s₂.heap fr₂→Step y [] ai Z s own₂ Z₂ s₂→Step y bv own₀ Z₀ s₀ own₂ Z₂ s₂→RvAt y own₂ Z₂ s.heap s₂.heap r v→Q v s₂) :
  wpAny (model prog w) A (eval e ao) Q (PostX y bv own₀ Z₀ s₀ ak) s:=by
 refine wpAny_mono (seqE (bv:=bvE x) hk .refl (fun j0_ h=>h) (fun o e=>H ai Z s Y o e I) fun r fr₂ own₂ Z₂ s₂ v e₁ h I₂ S₁ j0_ R=>?_) (fun v s' q=>q) fun j0_ s' p=>p.strong en (bv_hi V (.e e x) ce) S;exact K r fr₂ own₂ Z₂ s₂ v e₁ h I₂ (S₁.strong en<|bv_hi V (.e e x) ce) (S.trans ((S₁.strong en<|bv_hi V (.e e x) ce).sub fun j0_ h=>by cases h)) R
theorem seqST{β:Type}{e:Expr}{x:Ex}{k:Rv→Fm→Out β}{ak:aA β×Fm}{Q:Bool→Shared→Prop}(en:EnvOk A V ao y)(ce:CE V e x)(H:ST A c y (isTrue e ao<|eval e ao) x)(hk:bndK (ev c x Y) k=some ak)(I:Inv y ai Z s.heap Y)(S:Step y bv own₀ Z₀ s₀ ai Z s)
  (hd:∀r fr₂,k r fr₂=some ak→ ∃d,rvD fr₂ r=some d)
  (K:∀r d fr₂ own₂ Z₂ s₂,k r fr₂=some ak→rvD fr₂ r=some d→Inv y own₂ Z₂ s₂.heap fr₂→Step y bv own₀ Z₀ s₀ own₂ Z₂ s₂→Q (tD d) s₂) :
  wpAny (model prog w) A (isTrue e ao<|eval e ao) Q (PostX y bv own₀ Z₀ s₀ ak) s:=by
 refine wpAny_mono (seqT (bv:=bvE x) hk .refl (fun j0_ h=>h) hd (fun o e hd=>H ai Z s Y o e hd I) fun r d fr₂ own₂ Z₂ s₂ h hd I₂ S₁ j0_=>?_) (fun v s' q=>q) fun j0_ s' p=>p.strong en (bv_hi V (.e e x) ce) S;exact K r d fr₂ own₂ Z₂ s₂ h hd I₂<|S.trans ((S₁.strong en<|bv_hi V (.e e x) ce).sub fun j0_ h=>by cases h)
theorem Step.addO{a:Addr}{i:Nat}(S:Step y bv ai Z s own' Z' s')(e:s.heap.get? a=none) :Step y bv ai Z s (addO own' a i) Z' s':=
 ⟨S.sh,S.ext,S.zm,S.zn,fun b j q=>by
   by_cases h:b=a
   .exact .inr (h▸e)
   .rw[addO_ne h]at q;exact S.on b j q,S.bind⟩
theorem put_asg{i:Nat}{m:Sem Unit}{r:Rv}{v:Value}{fr₂:Fm}{h₀:Heap}{Q:Unit→Shared→Prop}{E:Value→Shared→Prop}(pu:∀(l:Loc)(Q:Unit→Shared→Prop),y.loc i=some l→(∀h' tk,Put y i l v s.heap h'→Q () {s with heap:=h',toks:=tk})→wpAny (model prog w) A m Q E s)(hl:∃l,y.loc i=some l)(hb:i∉c.pin→i∈bv)
  (he:asgT c.pin Y (.one i) r=some fr₂) (I:Inv y ai Z s.heap Y) (S:Step y bv own₀ Z₀ s₀ ai Z s) (hh:∀a,h₀.get? a=none→s₀.heap.get? a=none) (R:RvAt y ai Z h₀ s.heap r v)
  (K:∀own' Z' s',(∃h' tk,s'={s with heap:=h',toks:=tk})→(∀l,y.loc i=some l→ ∀a o,a≠l.addr→s.heap.get? a=some o→s'.heap.get? a=some o)→(∀a,own' a≠none→ai a≠none∨v = .ref a)→(∀a,Z' a→Z a)→Inv y own' Z' s'.heap fr₂→Step y bv own₀ Z₀ s₀ own' Z' s'→Q () s') :wpAny (model prog w) A m Q E s:=by
 refine ex1 hl fun l hl=>?_;simp only[asgT]at he;have z1:=ify he;have he:=z1.2;have hsub:∀j∈ [i],j∈bv:=fun j hj=>by rw[List.mem_singleton]at hj;subst hj;exact(hb (by simpa using z1.1))
 split at he
 .obtain rfl:=sos he;exact pu _ _ hl fun h' tk P=>K ai Z _ ⟨_,_,rfl⟩ (fun l' hl'=>by rw[hl]at hl';refine O (sos hl').symm ?_;exact P.keep) (fun a h=>.inl h) (fun a z=>z) (P.fz I hl R)<|S.trans<|(P.step hl I).sub hsub
 .obtain rfl:=sos he;obtain⟨a,R⟩:=R;obtain rfl:=R.1;refine pu _ _ hl fun h' tk P=>K (addO ai a i) Z _ ⟨_,_,rfl⟩ (fun l' hl'=>by rw[hl]at hl';refine O (sos hl').symm ?_;exact P.keep) (fun b h=>?_) (fun a z=>z) (P.owned I hl R.2.2.1 R.2.2.2.1 R.2.2.2.2.1 R.2.2.2.2.2)<|(S.trans<|(P.step hl I).sub hsub).addO<|hh a R.2.1;by_cases q:b=a
  .subst q;exact .inr rfl
  .rw[addO_ne q]at h;exact .inl h
 .exact nos he
theorem store_asg{x:Str}{i:Nat}{r:Rv}{v:Value}{fr₂:Fm}{h₀:Heap}{Q:Unit→Shared→Prop}{E:Value→Shared→Prop}(en:EnvOk A V ao y)(hv:V.vars.lookup x=some i)(hf:ao.kindOf x≠some .free)(hl:∃l,y.loc i=some l)(hb:i∉c.pin→i∈bv)
  (he:asgT c.pin Y (.one i) r=some fr₂) (I:Inv y ai Z s.heap Y) (S:Step y bv own₀ Z₀ s₀ ai Z s) (hh:∀a,h₀.get? a=none→s₀.heap.get? a=none) (R:RvAt y ai Z h₀ s.heap r v)
  (K:∀own' Z' s',(∃h' tk,s'={s with heap:=h',toks:=tk})→(∀l,y.loc i=some l→ ∀a o,a≠l.addr→s.heap.get? a=some o→s'.heap.get? a=some o)→(∀a,own' a≠none→ai a≠none∨v = .ref a)→(∀a,Z' a→Z a)→Inv y own' Z' s'.heap fr₂→Step y bv own₀ Z₀ s₀ own' Z' s'→Q () s') :wpAny (model prog w) A (storeName ao x v) Q E s:=
 put_asg (fun l Q hl h=>store_put en hv hf hl I h) hl hb he I S hh R K
structure FnOk(A:Around)(V:Sc)(ao:Env)(y:Lay)(c:Cfg)(bv:aw)(own₀:Addr→Option Nat) :Prop where
 en:EnvOk A V ao y
 nf:∀x i,V.vars.lookup x=some i→ao.kindOf x≠some .free
 bv:∀i,i∉c.pin→i<V.hi→i∈bv
 ni:interactive ao=false
 kd:∀x,ao.kindOf x=V.names.lookup x
 le:ao.locals=y.L
 lv:∀j z,y.loc j=some (.dict y.L z)→V.vars.lookup z≠none∨V.ats≠ []
 sl:V.ats=[]→y.slf=none
theorem FnOk.loc{x:Str}{i:Nat}(ok:FnOk A V ao y c bv own₀)(h:V.vars.lookup x=some i) :∃l,y.loc i=some l:=by rcases ok.en.var x i h with⟨_,e⟩ | ⟨_,c,_,e⟩ <;> exact⟨_,e⟩
theorem FnOk.bvi{x:Str}{i:Nat}(ok:FnOk A V ao y c bv own₀)(h:V.vars.lookup x=some i) :i∉c.pin→i∈bv:=fun hp=>by exact ex1 (ok.loc h) fun l hl=>(ok.bv i hp<|ok.en.hi i l hl)
theorem ss_asg{x:Str}{i:Nat}{p pos:Pos}{value:Expr}{e:Ex}(R:Rn A c n)(ok:FnOk A V ao y c bv own₀)(hx:V.isV x i)(ce:CE V value e) :
  SS1 A c y bv own₀ Z₀ s₀ (exec (.Assign [.Name x p] value pos) ao) (.asg (.one i) e):=by
 intro ai Z s Y ak h I S;have plain:swapsWith value (some<|.Name x p) pos.line ao=pure false→wpAny (model prog w) A (exec (.Assign [.Name x p] value pos) ao) (PostS y bv s₀ ai Z s ak) (PostX y bv ai Z s ak) s:=fun hs=>by refine wpAny_Assign_Name (seqS ok.en ce (sound_all R V _ ce ao y ok.en).1 h I .refl fun r fr₂ own₂ Z₂ s₂ v e₁ h I₂ S₁ S₂ R₂=>?_) hs;refine ex1 (mo_s h) fun fr₃ z2=>?_;exact O (sos z2.2).symm<|store_asg ok.en hx.1 (ok.nf x i hx.1) (ok.loc hx.1) (ok.bvi hx.1) z2.1 I₂ S₂ (fun j0_ q=>q) R₂ fun own' Z' s' j0_ j1_ j2_ j3_ I' S'=>⟨.next,own',Z',rfl,I',S',rfl⟩
 by_cases hc:noComp value=true
 .exact plain (swaps_plain ce hc)
 .cases ce.ci with
  | lit | nm=>exact absurd rfl hc
  | other h _ _=>exact absurd h hc
  | @comp elt iter g vs t cpos ifs scope j it src conds z h0 hz h1 h2 h3 h4 h5 h6=>
   have hsw:swapsWith (.ListComp elt [⟨g,iter,ifs,0⟩] scope cpos) (some<|.Name x p) pos.line ao=pure (ao.blockKind == .function&&ao.kindOf x==some .local&&p.line==cpos.line
    && !(scope.names.any fun(n,k)=>n==x&&(k == .local||k == .cell))):=rfl
   generalize hb:(ao.blockKind == .function&&ao.kindOf x==some .local&&p.line==cpos.line && !(scope.names.any fun(n,k)=>n==x&&(k == .local||k == .cell)))=b at hsw;cases b with
   | false=>exact plain hsw
   | true=>
    refine O (exec_Assign_Name_used _ _ _ _ hsw) ?_;refine wpAny_bind<|wpAny_standAt<|wpAny_bind ?_;have all:=sound_all R;refine hidG fun G g1=>?_;rcases bnd_some h with⟨e,f,hm,rfl⟩ | ⟨r,f,hm,h⟩
    .refine g1 ?_;refine wpAny_bind<|comp_any (use:=some<|assign (.Name x p) ao) h0 hz R.hh ok.en h2 h3 (all _ _ h1 ao y ok.en) (h1.noFold ao) (fun ao y en=>(all _ _ h4 ao y en).1) (fun ao y en=>(all _ _ h5 ao y en).imp fun j0_ j1_ q=>q.2.2) hm I (fun j0_ s' p=>(p.strong ok.en (bv_hi V (.e _ _)<|CQ.comp (pos:=cpos) h0 hz h1 h2 h3 h4 h5 h6) .refl).up (fun j0_ h=>h) .refl) fun Da C s' own' Z' X fr' m ho I' S' R' LC hm hDC=>?_;exact nomatch ho
    .refine g1 ?_;refine wpAny_bind<|comp_any (use:=some<|assign (.Name x p) ao) h0 hz R.hh ok.en h2 h3 (all _ _ h1 ao y ok.en) (h1.noFold ao) (fun ao y en=>(all _ _ h4 ao y en).1) (fun ao y en=>(all _ _ h5 ao y en).imp fun j0_ j1_ q=>q.2.2) hm I (fun e s' p=>p.elim) fun Da C s' own' Z' X fr' m ho I' S' R' LC hm' hDC=>?_;cases ho;refine ex1 (mo_s h) fun fr₃ z3=>?_;have h:=z3.2;refine O (sos h).symm ?_;refine wpAny_assign_Name<|store_asg ok.en hx.1 (ok.nf x i hx.1) (ok.loc hx.1) (ok.bvi hx.1) z3.1 I' ((S'.strong ok.en<|bv_hi V (.e _ _) (.comp h0 hz h1 h2 h3 h4 h5 h6:CE V (.ListComp elt [⟨g,iter,ifs,0⟩] scope cpos) (.comp z t it src conds))).sub fun j0_ h=>by exact nomatch h) (fun j0_ q=>q) R' fun own₄ Z₄ s₄ hsh hkp hown hZ I₄ S₄=>?_;obtain⟨l,hl⟩:=ok.loc hx.1;have hCl:C≠l.addr:=fun q=>LC.2.1<|.inr<|.inr ⟨i,l,hl,q.symm⟩;have hXX:∀b,b=C→ ¬y.wr own₄ b∧ ¬y.F b∧ ¬Z₄ b:=fun b q=>by
      subst q;refine⟨fun q=>?_,LC.2.2.1,fun q=>LC.2.2.2.1<|hZ _ q⟩;rcases q with q | q
      .rcases hown _ q with q | q
       .exact LC.2.1 (.inl q)
       .injection q with q;subst q;exact hDC rfl
      .exact LC.2.1 (.inr q)
     refine⟨m,(hm'.at' fun o ho=>hkp l hl C o hCl ho),fun h' hs=>wpAny_pure<|wpAny_pure ?_⟩;have kp:∀b o, ¬b=C→s₄.heap.get? b=some o→h'.get? b=some o:=fun b o q e=>hs.extBut b o q e;exact⟨.next,own₄,Z₄,rfl,I₄.other hXX kp,S₄.other (tk:=s₄.toks) (ag:=fun b=>b=C) (fun b q=>⟨q▸LC.1,(hXX b q).1⟩) kp,rfl⟩
theorem ss_asgA{x a:Str}{i:Nat}{p p' pos:Pos}{value:Expr}{e:Ex}(R:Rn A c n)(ok:FnOk A V ao y c bv own₀)(hx:V.isA x a i)(ce:CE V value e)(hc:noComp value=true) :
  SS1 A c y bv own₀ Z₀ s₀ (exec (.Assign [.Attribute (.Name x p) a p'] value pos) ao) (.asg (.one i) e):=by
 intro ai Z s Y ak h I S;refine ex2 (ok.en.ins hx.ne) fun pp dx J=>?_;have hl:=(J.an a i hx.at').2;refine plainObj_wpAny_Assign_Attribute (seqS ok.en ce (sound_all R V _ ce ao y ok.en).1 h I .refl fun r fr₂ own₂ Z₂ s₂ v e₁ h I₂ S₁ S₂ R₂=>?_)<|swaps_plain ce hc;refine load_self J ok.en I₂ hx.sn hx.db ?_;refine ex1 (mo_s h) fun fr₃ z4=>?_;have h:=z4.2;exact O (sos h).symm<|put_asg (fun l Q hl h=>store_atr R.gd J hx hl I₂ h) ⟨_,hl⟩ (fun hp=>ok.bv i hp<|ok.en.hi i _ hl) z4.1 I₂ S₂ (fun j0_ q=>q) R₂ fun own' Z' s' j0_ j1_ j2_ j3_ I' S'=>⟨.next,own',Z',rfl,I',S',rfl⟩
theorem names_asg{Q:Unit→Shared→Prop}{E:Value→Shared→Prop}(ok:FnOk A V ao y c bv own₀) :∀{es:az}{is:aw},TGs V es is→ ∀{vs:ay}{X:aB}{Y fr₂:Fm}{s:Shared}{ai:Addr→Option Nat}{Z:Addr→Prop},RepAll s.heap Z vs X→asgs c.pin Y is X=some fr₂→Inv y ai Z s.heap Y→
  (∀s',(∃h' tk,s'={s with heap:=h',toks:=tk})→Inv y ai Z s'.heap fr₂→Step y bv ai Z s ai Z s'→Q () s')→wpAny (model prog w) A (assignInOrder ((assignEach es ao).map (·.2)) vs) Q E s:=by
 intro es is t;induction t with
 | nil=>intro vs X Y fr₂ s ai Z R h I K;cases X with
  | nil=>obtain rfl:=sos h;exact assignInOrder_nil<|K s ⟨_,_,rfl⟩ I .refl
  | cons d X=>exact nos h
 | @cons _ _ i _ is hx t ih=>intro vs X Y fr₂ s ai Z R h I K;cases R with
  | nil=>exact nos h
  | @cons v vs d X r R=>
   have h:(if c.pin.contains i then none else asgs c.pin (Y.set i<|.fz d) is X)=some fr₂:=h;by_cases q:c.pin.contains i=true
   .rw[if_pos q]at h;exact nos h
   rw[if_neg q]at h;refine ex1 (ok.loc hx.1) fun l hl=>?_;refine assignInOrder_cons<|wpAny_assign_Name<|store_put ok.en hx.1 (ok.nf _ i hx.1) hl I fun h' tk P=>?_;have S1:Step y bv ai Z s ai Z {s with heap:=h',toks:=tk}:=(P.step hl I).sub fun j hj=>by exact O (List.mem_singleton.mp hj)<|ok.bvi hx.1 fun z=>q<|List.contains_iff_mem.mpr z
   refine ih (S1.repAll I R) h (P.fz I hl r) fun s' sh I' S'=>K s' ?_ I'<|S1.trans S';refine ex2 sh fun h2 tk2 sh=>?_;subst sh;exact⟨_,_,rfl⟩
theorem TGs.len{es:az}{is:aw}(t:TGs V es is) :(assignEach es ao).length=is.length∧(assignEach es ao).findIdx? (·.1)=none:=by induction t with
 | nil=>exact⟨rfl,rfl⟩
 | cons _ _ t=>refine⟨congrArg (· + 1) t.1,?_⟩;refine O (List.findIdx?_cons) ?_;simp[t.2]
theorem asgs_len{pin:aw} :∀{is:aw}{X:aB}{Y fr₂:Fm},asgs pin Y is X=some fr₂→is.length=X.length:=by intro is X Y fr₂ h;induction is generalizing X Y fr₂ with
 | nil=>cases X with
  | nil=>exact rfl
  | cons x1 x2=>exact nos h
 | cons i is ih=>cases X with
  | nil=>exact nos h
  | cons d X=>
    have h:(if pin.contains i then none else asgs pin (Y.set i<|.fz d) is X)=some fr₂:=h;by_cases q:pin.contains i=true
    .rw[if_pos q]at h;exact nos h
    .rw[if_neg q]at h;exact congrArg (· + 1)<|ih h
theorem tgt_asg{g:Expr}{t:Tgt}{v:Value}{d:D}{Y fr₂:Fm}{Q:Unit→Shared→Prop}{E:Value→Shared→Prop}(ok:FnOk A V ao y c bv own₀)(hh:A.handled=none)(tg:TG V g t)(he:asgT c.pin Y t (.fz d)=some fr₂)(I:Inv y ai Z s.heap Y)(R:Rep s.heap Z v d)
  (K:∀s',(∃h' tk,s'={s with heap:=h',toks:=tk})→Inv y ai Z s'.heap fr₂→Step y bv ai Z s ai Z s'→Q () s') :wpAny (model prog w) A (assign g ao v) Q E s:=by
 cases tg with
 | @one x p i hx=>obtain⟨q,rfl⟩:=ifn he;obtain⟨l,hl⟩:=ok.loc hx.1;exact wpAny_assign_Name<|store_put ok.en hx.1 (ok.nf _ i hx.1) hl I fun h' tk P=>K _ ⟨_,_,rfl⟩ (P.fz I hl R) ((P.step hl I).sub fun j hj=>by refine O (List.mem_singleton.mp hj) ?_;exact ok.bvi hx.1 fun z=>q<|List.contains_iff_mem.mpr z)
 | tup t=>cases R with
  | @tuple a vs n X z ht hn R=>refine assign_Tuple_tuple hh ⟨_,ht,rfl,_,rfl⟩ (O t.len.1<|O (asgs_len he)<|O List.size_toArray<|O R.length rfl) t.len.2 fun h' ext=>?_;have kp:∀b o,s.heap.get? b=some o→h'.get? b=some o:=fun b o e=>ext b o (Nat.ne_of_lt<|Heap.lt_size e) e;refine names_asg (s:= {s with heap:=h'}) ok t (R.mono (fun b o j0_=>kp b o) fun j0_ z=>z) he (I.grow kp) fun s' sh I' S'=>K s' ?_ I'<|(Step.grow (tk:=s.toks) kp).trans S';obtain⟨h2,tk2,rfl⟩:=sh;exact⟨_,_,rfl⟩
  | _=>exact nos he
end
end Mv
end
section
set_option backward.match.sparseCases false
namespace Mv
open PySem PyProof.Rows
variable [Hp]
section
variable {A:Around}{c:Cfg}{n:Nat}{ao:Env}{V:Sc}{y:Lay}
 {bv bv':aw} {ai own₁ own₀ own':Addr→Option Nat} {Z Z₁ Z₀ Z':Addr→Prop} {s s₁ s₀ s':Shared} {Y fr₁:Fm}
theorem PostS.from{ak:aA Ctl×Fm}{f:Flow}{s'':Shared}(S:Step y bv ai Z s own' Z' s')(p:PostS y bv s₀ own' Z' s' ak f s'') :PostS y bv s₀ ai Z s ak f s'':=by obtain⟨k,o,z,e,I,S',r⟩:=p;exact⟨k,o,z,e,I,S.trans S',r⟩
theorem ownL_s{o:Option D}(h:ownL o=true) :∃M,o=some (.list M):=by
 rcases o with _ | d
 .exact tf h
 .cases d with
  | list M=>exact⟨M,rfl⟩
  | _=>exact tf h
theorem appE_s{o:Option D}{Y:Fm}{p:Pl}{d:D}{ak:aA Ctl×Fm}(h:appE o Y p d=some ak) :∃M,o=some (.list M)∧M.length<Sz∧(.ok .next,plSet Y p<|.list<|M++[d])=ak:=by
 rcases o with _ | e
 .exact nos h
 .cases e with
  | list M=>exact⟨M,rfl,ifs h⟩
  | _=>exact nos h
theorem setD_s{o k d o':D}(h:setD o k d=some o') :∃kvs x,o = .dict kvs∧k = .str x∧kvs.length<Sz∧ .dict (dsetL kvs x d)=o':=by cases o with
 | dict kvs=>cases k with
  | str x=>exact⟨kvs,x,rfl,rfl,ifs h⟩
  | _=>exact nos h
 | _=>exact nos h
theorem retE_s{r:Rv}{Y:Fm}{ak:aA Ctl×Fm}(h:retE r Y=some ak) :(∀p,r≠ .pl p)∧ak=(.ok<|.ret r,Y):=by cases r with
 | pl p=>exact nos h
 | fz d=>exact⟨fun j0_ q=>(nomatch q),(sos h).symm⟩
 | ai d=>exact⟨fun j0_ q=>(nomatch q),(sos h).symm⟩
theorem ss_app{o:Expr}{apos pos pos':Pos}{e:Expr}{i:Nat}{z:Ex}(R:Rn A c n)(ok:FnOk A V ao y c bv own₀)(hx:PE V o i)(ce:CE V e z)(hp:(apos.endLine==pos.line)=true) :
  SS1 A c y bv own₀ Z₀ s₀ (exec (.Expr (.Call (.Attribute o "append" apos) [e] [] pos) pos') ao) (.app (.var i) z):=by
 intro ai Z s Y ak h I S;have hs:=ifx h;refine hidG fun G6 g6=>?_;obtain⟨d₀,hd₀⟩:=ownL_s hs.1;obtain⟨l,v,hl,hr,a,rfl,oa,W⟩:=I.at' i _ (plOwn_var hd₀) (fun q=>Slot.noConfusion q);refine g6 ?_;refine wpAny_Expr_any (wpAny_Call_append (pe_plain hx) (by refine O (ce.star ao []) ?_;rfl) hp (by refine O (ce.star ao []) ?_;rfl)<|load_pe R.gd ok.en I hx hl hr rfl fun tk=>?_) ok.ni rfl;refine hidG fun G7 g7=>?_;cases W with
 | @list vs m X hil hz RA=>refine g7 ?_;refine⟨a,_,rfl,⟨_,_,hil,rfl,rfl,rfl⟩,?_⟩;refine seqS (s:= {s with toks:=tk}) ok.en ce (sound_all R V _ ce ao y ok.en).1 hs.2 I (toks_step (tk:=tk) .refl) fun r fr₂ own₂ Z₂ s₂ v e₁ h I₂ S₁ S₂ R₂=>?_;refine ex1 (mo_s h) fun d hd=>ex1 (appE_s hd.2) fun M hxs=>?_;refine O hxs.2.2.symm ?_;refine hidG fun G g=>?_;obtain⟨Z₃,I₃,S₃,R₃⟩:=R₂.freeze I₂ S₁ hd.1;obtain⟨l3,v3,hl3,hr3,a3,rfl,oa3,W₃⟩:=I₃.at' i _ (plOwn_var hxs.1) (fun q=>Slot.noConfusion q);rw[hl]at hl3;obtain rfl:=sos hl3;obtain q:=(S₁.bind i l _ (by intro q;cases q) hl hr).det hr3;cases q;cases W₃ with
  | @list vs m X hil hz RA=>
   refine g ?_;refine append_at (hsz:=by refine O List.size_toArray<|O sz_line.symm ?_;exact hz) hil fun h' hsb ho'=>?_;have kz:∀b o,Z₃ b→s₂.heap.get? b=some o→h'.get? b=some o:=fun b o z e=>hsb.extBut b o (fun q=>by have:=I₃.zo b z;rw[q]at this;have this:=oa3▸this;cases this) e;have W₄:OwnAt h' Z₃ a (.list<|M++[d]):=by refine .list (vs:=vs++[v]) (n:=m+1) (by simpa using ho') ?_<|(RA.mono kz fun j0_ z=>z).append<|.cons (R₃.mono kz fun j0_ z=>z) .nil;refine O List.length_append<|O RA.length ?_;simp;exact hxs.2.1
   exact⟨.next,own₂,Z₃,rfl,(own_step I₃ hl hr3 oa3 hsb W₄).1,((toks_step (tk:=tk) .refl).trans (S₃.sub fun j0_ h=>by cases h)).trans ((own_step I₃ hl hr3 oa3 hsb W₄).2.sub fun j0_ h=>by cases h),rfl⟩
theorem ss_setI{ob:Expr}{p' pos:Pos}{value idx:Expr}{i:Nat}{z k:Ex}(R:Rn A c n)(ok:FnOk A V ao y c bv own₀)(hx:PE V ob i)(ce:CE V value z)(ck:CE V idx k) :
  SS1 A c y bv own₀ Z₀ s₀ (exec (.Assign [.Subscript ob idx p'] value pos) ao) (.setI (.var i) k z):=by
 intro ai Z s Y ak h I S;refine wpAny_Assign_Subscript (seqS ok.en ce (sound_all R V _ ce ao y ok.en).1 h I .refl fun r fr₁ own₁ Z₁ s₁ v e₁ h I₁ S₁ S' R₁=>?_)<|swaps_sub ce;have hs:=ifx h;refine hidG fun G5 g5=>?_;refine ex1 (Option.isSome_iff_exists.mp hs.1) fun d₀ hd₀=>?_;obtain⟨l,v₀,hl,hr,a,rfl,oa,W⟩:=I₁.at' i _ (plOwn_var hd₀) (fun q=>Slot.noConfusion q);refine g5 ?_;refine load_pe R.gd ok.en I₁ hx hl hr rfl fun tk=>?_;refine seqS (s:= {s₁ with toks:=tk}) ok.en ck (sound_all R V _ ck ao y ok.en).1 hs.2 I₁ (toks_step (tk:=tk) S') fun rk fr₂ own₂ Z₂ s₂ vk e₂ h I₂ S₂ S'' R₂=>?_;refine ex1 (mo_s h) fun d hd=>ex1 (mo_s hd.2) fun kd hkd=>ex1 (mo_s hkd.2) fun o ho=>ex1 (mo_s ho.2) fun o' hset=>?_;refine O (sos hset.2).symm ?_;refine hidG fun G2 g2=>?_;obtain⟨X,k,rfl,rfl,hj,rfl⟩:=setD_s hset.1;obtain⟨Z₃,I₃,S₃,R₃⟩:=(S₂.rv I₁ (rv_apart hd.1) R₁).freeze I₂ ((toks_step (tk:=tk) S₁).trans S₂) hd.1;obtain⟨l3,v3,hl3,hr3,a3,rfl,oa3,W₃⟩:=I₃.at' i _ (plOwn_var ho.1) (fun q=>Slot.noConfusion q);rw[hl]at hl3;obtain rfl:=sos hl3;obtain q:=(S₂.bind i l _ (by intro q;cases q) hl hr).det hr3;cases q;obtain⟨t,rfl,ok1,ok2⟩:=(R₂.dat I₂<|rvV_D hkd.1).str;cases W₃ with
 | @dict kvs X hds hz RK=>refine g2 ?_;refine wpAny_setItem_pairs (knd:=strKind prog w) (strKind_is _ _ k t) hds.2 (fun h' hd' hsb=>?_) (by refine O sz_line.symm ?_;exact hz);have kz:∀b o,Z₃ b→s₂.heap.get? b=some o→h'.get? b=some o:=fun b o z e=>hsb.extBut b o (fun q=>by have:=I₃.zo b z;rw[q]at this;have this:=oa3▸this;cases this) e;have RK':=(RK.mono kz fun j0_ z=>z).set ok1 ok2<|R₃.mono kz fun j0_ z=>z;have W₄:OwnAt h' Z₃ a (.dict<|dsetL X k d):=.dict ⟨hds.1,hd'⟩ (by refine O RK'.length ?_;exact Nat.le_trans (dsetL_len k d X) hj) RK';exact⟨.next,own₂,Z₃,rfl,(own_step I₃ hl hr3 oa3 hsb W₄).1,toks_step<|(S₃.sub fun j0_ h=>by cases h).trans ((own_step I₃ hl hr3 oa3 hsb W₄).2.sub fun j0_ h=>by cases h),rfl⟩
theorem ss_exp{e:Expr}{pos:Pos}{z:Ex}(R:Rn A c n)(ok:FnOk A V ao y c bv own₀)(ce:CE V e z)(hc:noComp e=true) :SS1 A c y bv own₀ Z₀ s₀ (exec (.Expr e pos) ao) (.exp z):=by intro ai Z s Y ak h I S;refine wpAny_Expr_any (seqS ok.en ce (sound_all R V _ ce ao y ok.en).1 h I .refl fun r fr₁ own₁ Z₁ s₁ v e₁ h I₁ S₁ S' R₁=>?_) ok.ni<|swaps_plain ce hc;exact O (sos h).symm<|⟨.next,own₁,Z₁,rfl,I₁,S',rfl⟩
theorem ret_at{e:Expr}{z:Ex}{ak:aA Ctl×Fm}(R:Rn A c n)(ok:FnOk A V ao y c bv own₀)(ce:CE V e z)(h:exS c (.ret z) Y=some ak)(I:Inv y ai Z s.heap Y)(S:Step y bv own₀ Z₀ s₀ ai Z s) :wpAny (model prog w) A (eval e ao) (fun v s'=>PostS y bv s₀ ai Z s ak (.ret v) s') (PostX y bv ai Z s ak) s:=by
 refine(seqS ok.en ce (sound_all R V _ ce ao y ok.en).1 h I .refl fun r fr₁ own₁ Z₁ s₁ v e₁ h I₁ S₁ S' R₁=>?_);have hne:=retE_s h;refine O hne.2 ⟨.ret r,own₁,Z₁,rfl,I₁,S',v,rfl,R₁.since S.old,?_⟩;rcases ev_val e₁ with q | ⟨p,q,_⟩
 .exact q
 .exact absurd q (hne.1 p)
theorem ss_ret{e:Expr}{pos:Pos}{z:Ex}(R:Rn A c n)(ok:FnOk A V ao y c bv own₀)(ce:CE V e z) :SS1 A c y bv own₀ Z₀ s₀ (exec (.Return (some e) pos) ao) (.ret z):=
 fun j0_ j1_ j2_ j3_ j4_ h I S=>wpAny_Return_some<|ret_at R ok ce h I S
theorem exSs_ret{z:Ex}{ak:aA Ctl×Fm}(h:exSs c [.ret z] Y=some ak) :exS c (.ret z) Y=some ak:=by rw[exSs_cons]at h;rcases q:exS c (.ret z) Y with _ | ⟨_ | ⟨_ | r⟩,f⟩ <;> rw[q]at h <;> exact h
set_option tactic.hygienic true in
theorem ss_retI{t a b:Expr}{p pos:Pos}{z x u:Ex}(R:Rn A c n)(ok:FnOk A V ao y c bv own₀)(ce:CE V t z)(ca:CE V a x)(cb:CE V b u) :SS1 A c y bv own₀ Z₀ s₀ (exec (.Return (some<|.IfExp t a b p) pos) ao) (.iff z [.ret x] [.ret u]):=by
 intro ai Z s Y ak h I S;refine wpAny_Return_some<|IfExp_<|seqST ok.en ce (sound_all R V _ ce ao y ok.en).2 h I .refl (fun r fr₂ h=>?_) fun r d fr₂ own₂ Z₂ s₂ h hd I₂ S₂=>?_
 .exact ex1 (mo_s h) fun j0_ z=>⟨_,z.1⟩
 .rw[hd,mo_e]at h;split at h
  .rename_i ht;rw[if_pos ht];exact wpAny_mono (ret_at R ok ca (exSs_ret h) I₂<|S.trans S₂) (fun fl s'' p=>p.from S₂) fun j0_ j1_ x=>x.sub (fun j0_ h=>h) S₂
  .rename_i ht;rw[if_neg ht];exact wpAny_mono (ret_at R ok cb (exSs_ret h) I₂<|S.trans S₂) (fun fl s'' p=>p.from S₂) fun j0_ j1_ x=>x.sub (fun j0_ h=>h) S₂
theorem ss_nil:SS A c y bv own₀ Z₀ s₀ (execs [] ao) []:=by intro ai Z s Y ak h I S;exact O (sos h).symm<|wpAny_execs_nil ⟨.next,ai,Z,rfl,I,.refl,rfl⟩
theorem ss_cons{st:Stmt}{ss:List Stmt}{z:St}{zs:List St}(H1:SS1 A c y bv own₀ Z₀ s₀ (exec st ao) z)(H2:SS A c y bv own₀ Z₀ s₀ (execs ss ao) zs) :SS A c y bv own₀ Z₀ s₀ (execs (st::ss) ao) (z::zs):=by
 intro ai Z s Y ak h I S;rw[exSs_cons]at h;refine wpAny_execs_cons ?_;refine hidG fun G g=>?_;rcases bnd_some h with⟨e,f,hm,rfl⟩ | ⟨k,f,hm,h⟩
 .refine g ?_;refine wpAny_mono (H1 ai Z s Y _ hm I S) (fun fl s' p=>?_) fun j0_ j1_ x=>x;obtain⟨_,_,_,q,_⟩:=p;exact kre q
 .refine g ?_;refine wpAny_mono (H1 ai Z s Y _ hm I S) (fun fl s' p=>?_) fun j0_ j1_ x=>x.elim;obtain⟨k',own',Z',q,I',S',r⟩:=p;obtain rfl:=oki q;cases k with
  | next=>cases r;refine wpAny_mono (H2 own' Z' s' f ak h I'<|S.trans S') (fun fl s'' p=>?_) fun j0_ j1_ x=>x.sub (fun j0_ h=>h) S';exact p.from S'
  | ret rv=>refine O (sos h).symm ?_;obtain⟨v,r⟩:=r;exact O r.1<|⟨.ret rv,own',Z',rfl,I',S',v,rfl,r.2⟩
set_option tactic.hygienic true in
theorem ss_iff{t:Expr}{a b:List Stmt}{pos:Pos}{z:Ex}{xa xb:List St}(R:Rn A c n)(ok:FnOk A V ao y c bv own₀)(ce:CE V t z)(Ha:SS A c y bv own₀ Z₀ s₀ (execs a ao) xa)(Hb:SS A c y bv own₀ Z₀ s₀ (execs b ao) xb) :
  SS1 A c y bv own₀ Z₀ s₀ (exec (.If t a b pos) ao) (.iff z xa xb):=by
 intro ai Z s Y ak h I S;refine wpAny_If<|seqST ok.en ce (sound_all R V _ ce ao y ok.en).2 h I .refl (fun r fr₂ h=>?_) fun r d fr₂ own₂ Z₂ s₂ h hd I₂ S₂=>?_
 .exact ex1 (mo_s h) fun j0_ z=>⟨_,z.1⟩
 .rw[hd,mo_e]at h;split at h
  .rename_i ht;rw[if_pos ht];exact wpAny_mono (Ha own₂ Z₂ s₂ fr₂ ak h I₂<|S.trans S₂) (fun fl s'' p=>p.from S₂) fun j0_ j1_ x=>x.sub (fun j0_ h=>h) S₂
  .rename_i ht;rw[if_neg ht];exact wpAny_mono (Hb own₂ Z₂ s₂ fr₂ ak h I₂<|S.trans S₂) (fun fl s'' p=>p.from S₂) fun j0_ j1_ x=>x.sub (fun j0_ h=>h) S₂
theorem SS1.of{m:Sem Flow}{z:St}(H:∀(ai:Addr→Option Nat)(Z:Addr→Prop)(s:Shared)(Y:Fm)(ak:aA Ctl×Fm)(Q:Flow→Shared→Prop)(E:Value→Shared→Prop),(∀f s',PostS y bv s₀ ai Z s ak f s'→Q f s')→(∀e s',PostX y bv ai Z s ak e s'→E e s')→
  exS c z Y=some ak→Inv y ai Z s.heap Y→Step y bv own₀ Z₀ s₀ ai Z s→wpAny (model prog w) A m Q E s) :SS1 A c y bv own₀ Z₀ s₀ m z:=fun ai Z s Y ak h I S=>H ai Z s Y ak _ _ (fun j0_ j1_ p=>p) (fun j0_ j1_ p=>p) h I S
inductive FInv(y:Lay)(bv:aw)(ai:Addr→Option Nat)(Z:Addr→Prop)(s:Shared)(items:aB)(fp wr:List Addr)(P:Nat→Itm→Prop)(St:Nat→Heap→Prop)(c:Cfg)(t:Tgt)(xb:List Mv.St)(tmp:aw)(ak:aA Ctl×Fm)(m:Nat)(s':Shared) :Prop
 | mk (k:Nat) (own':Addr→Option Nat) (Z':Addr→Prop) (fr':Fm) :m=items.length+1 - k→k≤items.length→Inv y own' Z' s'.heap fr'→Step y bv ai Z s own' Z' s'→WkAt y items fp wr P St s.heap own' Z' s'.heap k→
   forB c fr' t xb tmp (items.drop k)=some ak→FInv y bv ai Z s items fp wr P St c t xb tmp ak m s'
theorem TG.gok{g:Expr}{t:Tgt}{it:Itk}(h:TG V g t)(hz:it.pairs=true→t.isTup=true) :gOk it g:=fun q=>by cases h with
 | one=>cases hz q
 | tup=>exact⟨_,_,_,rfl⟩
theorem ss_for{g:Expr}{pos:Pos}{iter:Expr}{body:List Stmt}{t:Tgt}{it:Itk}{src:List Ex}{xb:List St}{tmp:aw}(R:Rn A c n)(ok:FnOk A V ao y c bv own₀)(tg:TG V g t)(hz:it.pairs=true→t.isTup=true)(hit:IT V iter it src)(Hb:SS A c y bv own₀ Z₀ s₀ (execs body ao) xb) :
  SS1 A c y bv own₀ Z₀ s₀ (exec (.For g iter body [] pos) ao) (.for_ t it src xb tmp):=by
 refine SS1.of fun ai Z s Y ak Q E kQ kE h I S=>?_;rw[exS_for]at h;refine wpAny_For ?_<|hit.noFold ao;refine hidG fun G g1=>?_;rcases bnd_some h with⟨e,f,hm,rfl⟩ | ⟨rs,fr₁,hm,h⟩
 .refine g1 ?_;refine wpAny_mono ((sound_all R _ _ hit ao y ok.en) ai Z s Y _ hm (fun rs q=>by exact kre q) I) (fun x s₁ p=>wpAny_mono p (fun itv s₂ p=>?_) fun j0_ j1_ x=>kE _ _<|(x.strong ok.en (bv_hi V _ hit) .refl).up (fun j0_ h=>h) .refl) fun j0_ j1_ x=>kE _ _<|(x.strong ok.en (bv_hi V _ hit) .refl).up (fun j0_ h=>h) .refl;obtain⟨_,_,_,_,_,_,_,_,_,_,q,_⟩:=p;exact kre q
 .refine g1 ?_;refine ex1 (mo_s h) fun X h=>?_;have hds:=h.1
  .refine ex1 (mo_s h.2) fun items h=>?_;have hitems:=h.1;have h:=h.2
   .refine wpAny_mono ((sound_all R _ _ hit ao y ok.en) ai Z s Y _ hm (fun rs q=>by refine O (oki q).symm ?_;exact⟨X,items,hds,hitems⟩) I) (fun xv s₁ p=>wpAny_mono p (fun itv s₂ p=>?_) fun j0_ j1_ x=>x.elim) fun j0_ j1_ x=>x.elim;obtain⟨rs',ds',items',own₁,Z₁,It,fp,wr,P,St,q,hds',hit',hlen,rfl,I₂,S₂,W,WA⟩:=p;refine hidG fun G1 g2=>?_;obtain rfl:=oki q;rw[hds]at hds';obtain rfl:=sos hds';rw[hitems]at hit';obtain rfl:=sos hit';refine g2 ?_;refine hid2 (FInv y bv ai Z s items fp wr P St c t xb tmp ak) fun J je ji=>?_;refine codeAny_forLoop_any J ?_ (items.length+1)<|ji _ _ ⟨0,own₁,Z₁,fr₁,rfl,Nat.zero_le _,I₂,((S₂.strong ok.en<|bv_hi V _ hit).sub fun j0_ h=>by exact nomatch h),WA,by refine O List.drop_zero ?_;exact h⟩;intro m s' jq;obtain⟨k,own',Z',fr',rfl,hk,I',S',WA',hh⟩:=je _ _ jq;clear jq je;by_cases hkl:k<items.length
    .have hd:items[k]?=some items[k]:=List.getElem?_eq_getElem hkl;rw[List.drop_eq_getElem_cons hkl]at hh;generalize items[k]=d at hd hh;rw[forB_cons]at hh;refine next_item W (tg.gok hz) WA' I' S' hd (fun j0_ j1_ p=>p) fun val s₅ Z₅ j0_ Rv₅ WA₅ I₅ S₅ j1_ j2_=>?_;refine ex1 (mo_s hh) fun fr₆ hh=>?_;have he:=hh.1;have hh:=hh.2
     .refine tgt_asg ok R.hh tg he (I₅.clr tmp) Rv₅ fun s₆ j0_ I₆ S₆=>?_;have S₆':=S₅.trans S₆;refine hidG fun G3 g4=>?_;rcases bnd_some hh with⟨e,f,hm,rfl⟩ | ⟨kk,f,hm,hh⟩
      .exact g4 (wpAny_mono (Hb own' Z₅ s₆ fr₆ _ hm I₆<|S.trans S₆') (fun fl s₇ p=>by obtain⟨_,_,_,q,_⟩:=p;exact kre q) fun j0_ j1_ x=>loop_exc ok.en kE<|x.up (fun j0_ h=>h) S₆')
      .refine g4 ?_;refine wpAny_mono (Hb own' Z₅ s₆ fr₆ _ hm I₆<|S.trans S₆') (fun fl s₇ p=>?_) fun j0_ j1_ x=>x.elim;obtain⟨k',own₇,Z₇,q,I₇,S₇,r⟩:=p;obtain rfl:=oki q;dsimp only at I₇;cases kk with
       | next=>subst r;exact⟨items.length+1 - (k+1),turn_dec hk,ji _ _ ⟨k+1,own₇,Z₇,f,rfl,hkl,I₇,S₆'.trans S₇,(WA₅.step W (I₅.clr tmp) S₆).step W I₆ S₇,hh⟩⟩
       | ret rv=>obtain rfl:=sos hh;obtain⟨v,r⟩:=r;exact O r.1<|kQ _ _ ⟨.ret rv,own₇,Z₇,rfl,I₇,S₆'.trans S₇,v,rfl,r.2⟩
    .have hke:k=items.length:=Nat.le_antisymm hk<|Nat.not_lt.mp hkl;subst hke;have hh:=List.drop_length▸hh;rw[forB_nil]at hh;obtain rfl:=sos hh;refine next_done W WA' I' S' fun s'' I'' S'' kp j0_=>wpAny_execs_nil<|kQ _ _ ⟨.next,own',Z',rfl,I''.clr tmp,S'',rfl⟩
inductive WInv(y:Lay)(bv:aw)(ai:Addr→Option Nat)(Z:Addr→Prop)(s:Shared)(c:Cfg)(z:Ex)(xb:List Mv.St)(tmp:aw)(ak:aA Ctl×Fm)(m:Nat)(s':Shared) :Prop
 | mk (own':Addr→Option Nat) (Z':Addr→Prop) (fr':Fm) :Inv y own' Z' s'.heap fr'→Step y bv ai Z s own' Z' s'→whB c fr' z xb tmp m=some ak→WInv y bv ai Z s c z xb tmp ak m s'
theorem ss_whl{t:Expr}{body:List Stmt}{pos:Pos}{z:Ex}{xb:List St}{tmp:aw}(R:Rn A c n)(ok:FnOk A V ao y c bv own₀)(ce:CE V t z)(Hb:SS A c y bv own₀ Z₀ s₀ (execs body ao) xb) :
  SS1 A c y bv own₀ Z₀ s₀ (exec (.While t body [] pos) ao) (.whl z xb tmp):=by
 refine SS1.of fun ai Z s Y ak Q E kQ kE h I S=>?_;rw[exS_whl]at h;refine hid2 (WInv y bv ai Z s c z xb tmp ak) fun J je ji=>?_;refine wpAny_While<|codeAny_whileLoop J (fun m s' hI=>?_) Wz<|ji _ _ ⟨ai,Z,Y,I,.refl,h⟩;obtain⟨own',Z',fr',I',S',hh⟩:=je _ _ hI;clear hI je;cases m with
 | zero=>exact nos hh
 | succ m=>
  rw[whB_succ]at hh;rcases bnd_some hh with⟨e,f,hm,rfl⟩ | ⟨b,f,hm,hh⟩
  .exact wpAny_mono (seqST (Q:=fun j0_ j1_=>False) (bv:=bv) ok.en ce (sound_all R V _ ce ao y ok.en).2 hm (I'.clr tmp) .refl (fun r fr₂ h=>ex1 (mo_s h) fun d z=>⟨d,z.1⟩) fun r d fr₂ own₂ Z₂ s₂ h hd I₂ S₂=>by have h:=hd▸h;cases h) (fun j0_ j1_ q=>q.elim) fun j0_ j1_ x=>loop_exc ok.en kE<|x.up (fun j0_ h=>h) S'
  refine wpAny_mono (seqST (bv:=bv) ok.en ce (sound_all R V _ ce ao y ok.en).2 hm (I'.clr tmp) .refl (fun r fr₂ h=>?_) fun r d fr₂ own₂ Z₂ s₂ h hd I₂ S₂=>?_) (fun j0_ j1_ q=>q) fun j0_ j1_ x=>x.elim
  .exact ex1 (mo_s h) fun d z=>⟨d,z.1⟩
  .rw[hd]at h;have u:=okp h;obtain rfl:=u.1;obtain rfl:=u.2;have S₂':=S'.trans S₂;cases hb:tD d with
   | false=>rw[hb]at hh;obtain rfl:=sos hh;exact O (if_neg Bool.false_ne_true)<|wpAny_execs_nil<|kQ _ _ ⟨.next,own₂,Z₂,rfl,I₂,S₂',rfl⟩
   | true=>
    have hh:=hb▸hh;refine O (if_pos rfl) ?_;rcases bnd_some hh with⟨e,f',hm',rfl⟩ | ⟨kk,f',hm',hh⟩
    .exact wpAny_mono (Hb own₂ Z₂ s₂ _ _ hm' I₂<|S.trans S₂') (fun fl s₇ p=>by obtain⟨_,_,_,q,_⟩:=p;exact kre q) fun j0_ j1_ x=>loop_exc ok.en kE<|x.up (fun j0_ h=>h) S₂'
    refine wpAny_mono (Hb own₂ Z₂ s₂ _ _ hm' I₂<|S.trans S₂') (fun fl s₇ p=>?_) fun j0_ j1_ x=>x.elim;obtain⟨k',own₇,Z₇,q,I₇,S₇,r⟩:=p;obtain rfl:=oki q;cases kk with
    | next=>cases r;exact⟨m,Nat.lt_succ_self m,ji _ _ ⟨own₇,Z₇,f',I₇,S₂'.trans S₇,hh⟩⟩
    | ret rv=>obtain rfl:=sos hh;obtain⟨v,r⟩:=r;exact O r.1<|kQ _ _ ⟨.ret rv,own₇,Z₇,rfl,I₇,S₂'.trans S₇,v,rfl,r.2⟩
theorem Step.to{bw:aw}(S:Step y bw ai Z s own' Z' s')(en:EnvOk A V ao y)(h:∀i∈bw,i∈bv∨V.hi≤i) :Step y bv ai Z s own' Z' s':=
 {S with bind:=fun i l v n hl r=>S.bind i l v (fun q=>(h i q).elim n fun q=>absurd (en.hi i l hl)<|Nat.not_lt.mpr q) hl r}
theorem PostX.to{β γ:Type}{bw:aw}{nm:Str}{f:Fm}{e:Value}(x:PostX y bw ai Z s ((.error nm:aA β),f) e s')(en:EnvOk A V ao y)(h:∀i∈bw,i∈bv∨V.hi≤i) :PostX y bv ai Z s ((.error nm:aA γ),f) e s':=by refine hidG fun G g=>?_;obtain⟨nm',a,own',Z',q,e1,I,S',ag⟩:=x;cases q;exact g<|⟨_,a,own',Z',rfl,e1,I,S'.to en h,ag⟩
open Classical in
theorem ss_tset{x a z:Str}{p ap pz p' pos:Pos}{value:Expr}{i j:Nat}{e:Ex}(R:Rn A c n)(ok:FnOk A V ao y c bv own₀)(ha:V.isA x a i)(hz:V.isV z j)(ce:CE V value e) :
  SS1 A c y bv own₀ Z₀ s₀ (exec (.Assign [.Subscript (.Attribute (.Name x p) a ap) (.Name z pz) p'] value pos) ao) (.tset i (.var j) e):=by
 intro ai Z s Y ak h I S;refine wpAny_Assign_Subscript (seqS ok.en ce (sound_all R V _ ce ao y ok.en).1 h I .refl fun r fr₁ own₁ Z₁ s₁ v e₁ h I₁ S₁ S' R₁=>?_)<|swaps_sub ce;rcases bnd_some h with⟨_,f,hm,_⟩ | ⟨rk,fr₂,hm,h⟩
 .obtain⟨_,_,q,_⟩:=var_is hm;cases q
 obtain⟨k,f,q,hf⟩:=var_is hm;cases q;refine ex1 (mo_s h) fun d h=>?_;have hd:=h.1
 .refine ex1 (mo_s h.2) fun k' h=>?_;obtain rfl:=sos h.1;refine ex1 (mo_s h.2) fun X h=>?_;have ht:=h.1;obtain⟨⟨ko,kn,ln⟩,rfl⟩:=ifs h.2;refine hidG fun G g=>?_;obtain⟨Z₃,I₃,S₃,R₃⟩:=R₁.freeze I₁ S' hd;obtain⟨l,t,_,hl,hr,_⟩:=I₃.tabIn<|hf i X<|tabAt_eq ht;refine g ?_;refine load_atr R.gd ok.en I₃ ha hl hr rfl fun tk=>?_;refine wpAny_mono (se_var ok.en hz own₁ Z₃ {s₁ with toks:=tk} fr₁ _ hm I₃) (fun vk s₂ p=>?_) fun j0_ j1_ x=>x.elim;refine hidG fun G g=>?_;obtain⟨r',own₂,Z₂,q,I₂,S₂,R₂⟩:=p;obtain rfl:=oki q;have R₂:Rep s₂.heap Z₂ vk k:=R₂;obtain⟨b,rfl⟩:=R₂.keyRef ko;have S₂:Step y [] own₁ Z₃ {s₁ with toks:=tk} own₂ Z₂ s₂:=S₂;obtain⟨l',t',M,hl',hr',ot,sy,dm,lx,kt⟩:=I₂.tabIn<|tabAt_eq ht;have hl':=hl▸hl';obtain rfl:=sos hl';have e:=rdL.det (S₂.bind i l _ (fun h=>by cases h) hl hr) hr';cases e;refine g ?_;have an:atKey M k=none:=by cases kt.get ko with
   | no _ b=>exact b
   | yes _ _ a _ _=>rw[kn]at a;exact nos a
  refine wpAny_setItem_heap (knd:=dataKind prog w) (room_in1 R) (Rep.isKey ko R₂) dm (fun h' hd' hsb=>?_) (by refine O sz_line.symm ?_;exact lx);rw[storedH_new an]at hd';have kz:∀b o,Z₂ b→s₂.heap.get? b=some o→h'.get? b=some o:=fun b o z e=>hsb.extBut b o (fun q=>by have:=I₂.zo b z;rw[q,ot]at this;cases this) e;have T:TabAt h' Z₂ t (X++[(k,d)]):=⟨_,sy,hd',by refine O List.length_append ?_;rw[kt.len];exact ln,(kt.app ko R₂<|S₂.rep I₃ R₃).mono kz fun j0_ z=>z⟩
  have st:=slot_step (sl:=.tab<|X++[(k,d)]) I₂ hl hr' ot hsb T.live ⟨t,rfl,ot,T⟩;exact⟨.next,own₂,Z₂,rfl,st.1,toks_step<|(S₃.trans<|(toks_step (tk:=tk) .refl).trans (S₂.sub fun j0_ h=>by cases h)).trans (st.2.sub fun j0_ h=>by cases h),rfl⟩
open Classical in
theorem ss_tab0{x a:Str}{p p' dp pos:Pos}{i:Nat}(R:Rn A c n)(ok:FnOk A V ao y c bv own₀)(hx:V.isA x a i) :
  SS1 A c y bv own₀ Z₀ s₀ (exec (.Assign [.Attribute (.Name x p) a p'] (.Dict [] [] dp) pos) ao) (.tab0 i):=by
 intro ai Z s Y ak h I S;obtain⟨hn,rfl⟩:=ifn h;refine ex2 (ok.en.ins hx.ne) fun pp dx J=>?_;have hl:=(J.an a i hx.at').2;have nD:=hN0 s.heap;have I1:Inv y ai Z (s.heap.push {cls:=.type "dict",data:=.dict #[]}) Y:=I.grow fun b o e=>pK _ b o e;have S1:Step y bv ai Z s ai Z {s with heap:=s.heap.push {cls:=.type "dict",data:=.dict #[]}}:=.grow (tk:=s.toks) fun b o e=>pK _ b o e;refine plainObj_wpAny_Assign_Attribute (wpAny_Dict_empty (load_self (s:= {s with heap:=s.heap.push {cls:=.type "dict",data:=.dict #[]}}) J ok.en I1 hx.sn hx.db (store_atr R.gd J hx hl I1 fun h' tk P=>?_))) rfl;have lv:∃o,(s.heap.push {cls:=.type "dict",data:=.dict #[]}).get? s.heap.objs.size=some o:=⟨_,Heap.get?_push_size _ rfl⟩
 refine⟨.next,_,Z,rfl,I1.setOwn hl P.keep P.rd P.oth P.ok P.ns P.si (I.fresh nD).1 (I.fresh nD).2.1 (I.fresh nD).2.2 lv ⟨_,rfl,rfl,[],sys_ne<|R.big I,Heap.DictOfH.new _,Nat.zero_le _,trivial⟩,(S1.trans<|(P.step hl I1).sub fun j hj=>?_).addO nD,rfl⟩;rw[List.mem_singleton]at hj;subst hj;exact ok.bv _ (fun q=>hn<|List.contains_iff_mem.mpr q)<|ok.en.hi _ _ hl
set_option tactic.hygienic true in
theorem ss_rev{o:Expr}{apos pos pos':Pos}{i:Nat}(R:Rn A c n)(ok:FnOk A V ao y c bv own₀)(hx:PE V o i)(hp:(apos.endLine==pos.line)=true) :
  SS1 A c y bv own₀ Z₀ s₀ (exec (.Expr (.Call (.Attribute o "reverse" apos) [] [] pos) pos') ao) (.rev (.var i)):=by
 intro ai Z s Y ak h I S;refine ex1 (mo_s h) fun d z=>ex1 (mo_s z.2) fun o' z1=>?_;refine hidG fun G g=>?_;cases d <;> first | exact nos z1.1 | skip
 refine hidG fun G3 g3=>?_;rename_i M;refine g3 ?_;have q:=z.1;obtain rfl:=sos z1.1;obtain rfl:=sos z1.2;refine hidG fun G1 g1=>?_;obtain⟨l,v,hl,hr,a,rfl,oa,W⟩:=I.at' i _ (plOwn_var q) (by intro q;cases q);refine g1 ?_;refine g ?_;refine wpAny_Expr_any (wpAny_Call_method0_late (pe_plain hx) hp<|load_pe R.gd ok.en I hx hl hr rfl fun tk=>?_) ok.ni rfl;refine hidG fun G4 g4=>?_;cases W with
 | @list vs m X hil hz RA=>refine g4 ?_;refine ⟨"list","list.reverse",PySem.F.plainAttrs_list,PySem.F.slot_list_reverse,PySem.F.type_list_reverse,⟨_,hil,rfl⟩,(fun b e=>by cases e; exact ⟨_,hil,rfl⟩),?_⟩;refine PySem.P.reverse_list (s:= {s with toks:=tk}) hil ?_ (by refine O List.size_toArray (O sz_line.symm ?_); exact hz);have up:=IsL.update hil fun x=>x.reverse;generalize hH:s.heap.update a (Obj.mapSeq fun x=>x.reverse)=H at up;have sb:=hH▸Heap.SameBut.update ..;have kz:∀b o,Z b→s.heap.get? b=some o→H.get? b=some o:=fun b o z e=>sb.extBut b o (fun q=>by have:=I.zo b z;rw[q]at this;have this:=oa▸this;cases this) e;rw[show vs.toArray.reverse=vs.reverse.toArray from List.reverse_toArray]at up;have W':OwnAt H Z a (.list M.reverse):=.list up (by refine O List.length_reverse ?_;exact hz) (RA.mono kz fun j0_ z=>z).reverse;exact⟨.next,ai,Z,rfl,(own_step I hl hr oa sb W').1,toks_step (tk:=tk) ((own_step I hl hr oa sb W').2.sub fun j0_ h=>by cases h),rfl⟩
theorem ss_mst{f:Nat}{d:DefRec}{x:Str}{p ap pos pos':Pos}{es:az}{M:List Ex}(R:Rn A c n)(ok:FnOk A V ao y c bv own₀)(hf:tb.fn[f]?=some d∧tb.m0≤f∧kf f=V.k)(hx:x=V.sn∧(x == ("__debug__" :Str))=false∧V.ats≠ [])(hl:(ap.endLine == pos.line)=true)(ces:CEs V es M)(hn:es.length≤28) :
  SS1 A c y bv own₀ Z₀ s₀ (exec (.Expr (.Call (.Attribute (.Name x p) d.name ap) es [] pos) pos') ao) (.mst f V.as (rbA (rbF f) V.as) M):=by
 intro ai Z s Y ak h I S;refine ex2 (ok.en.ins hx.2.2) fun pp dx J=>?_;have F:=(sound_all R V _ ces ao y ok.en).imp fun j0_ j1_ h=>(⟨h.1,h.2.1⟩ :CE V _ _∧SE A c y _ _)
 refine wpAny_Expr_any (Call_meth rfl F hn hl<|load_self J ok.en I hx.1 hx.2.1 fun pl=>meth_at R ok.en J hx.2.2 hf F I h (fun e s' p=>p.strong ok.en (bv_hi V _ ces) .refl) fun rs fr₁ h=>?_) ok.ni rfl;have hp:=ify h;have hb:∀i∈rbA (rbF f) V.as++bvEs M,i∈bv∨V.hi≤i:=fun i hi=>(List.mem_append.mp hi).elim (fun hi=>by
  by_cases q:V.hi≤i
  .exact .inr q
  .exact .inl (ok.bv i (fun hq=>hp.1<|List.any_eq_true.mpr ⟨i,hi,List.contains_iff_mem.mpr hq⟩)<|Nat.not_le.mp q)) fun hi=>.inr<|bv_hi V _ ces i hi
 rcases bnd_some hp.2 with⟨e,f',hm,rfl⟩ | ⟨r,f',hm,h⟩
 .refine⟨_,hm,fun v s' p=>?_,fun e s' p=>p.to ok.en hb⟩;obtain⟨_,_,_,q,_⟩:=p;exact kre q
 .refine O (sos h).symm ?_;refine⟨_,hm,fun v s' p=>?_,fun e s' p=>p.elim⟩;obtain⟨_,own',Z',q,I',S',_⟩:=p;exact⟨.next,own',Z',rfl,I',S'.to ok.en hb,rfl⟩
end
end Mv
end
section
set_option backward.match.sparseCases false
namespace Mv
open PySem PyProof.Rows
variable [Hp]
noncomputable def insL(dx L:Addr)(x:Str) :List Loc:=tb.an.map (Loc.attr dx tb.an)++[.dict L x]
noncomputable def Lay.more(y:Lay)(i:Nat)(ls:List Loc)(p:Addr×Obj) :Lay:= {y with loc:=fun j=>if i≤j then ls[j - i]? else y.loc j,si:=i+tb.an.length,slf:=some p}
section
variable {A:Around}{c:Cfg}{n:Nat}{ao:Env}{V:Sc}{y:Lay}{i j k:Nat}{l:Loc}{ls:List Loc}{p:Addr×Obj}{dx L a:Addr}{x:Str}
 {bv bv':aw} {ai own₁ own₀ own' own₂ own₃:Addr→Option Nat} {Z Z₁ Z₀ Z' Z₂ Z₃:Addr→Prop} {s s₁ s₀ s' s₂ s₃:Shared} {Y fr₁:Fm} {h:Heap}
theorem more_cases(h:(y.more i ls p).loc j=some l) :(i≤j∧ls[j - i]?=some l)∨(j<i∧y.loc j=some l):=by
 have h:(if i≤j then ls[j - i]? else y.loc j)=some l:=h;by_cases q:i≤j
 .rw[if_pos q]at h;exact .inl ⟨q,h⟩
 .rw[if_neg q]at h;exact .inr ⟨Nat.not_le.mp q,h⟩
theorem more_get(hi:∀j l,y.loc j=some l→j<i)(h:y.loc j=some l) :(y.more i ls p).loc j=some l:=(if_neg<|Nat.not_le.mpr<|hi j l h).trans h
theorem more_at(h:ls[k]?=some l) :(y.more i ls p).loc (i+k)=some l:=by
 show(if i≤i+k then ls[i+k - i]? else _)=_
 refine O (if_pos<|Nat.le_add_right i k) ?_;rw[Nat.add_sub_cancel_left];exact h
theorem insL_cases(h:(insL dx L x)[k]?=some l) :(∃a,tb.an[k]?=some a∧l = .attr dx tb.an a)∨(k=tb.an.length∧l = .dict L x):=by
 unfold insL at h;rcases Nat.lt_or_ge k tb.an.length with q | q
 .rw[List.getElem?_append_left (by rw[List.length_map];exact q),List.getElem?_map]at h;refine ex1 (Option.map_eq_some_iff.mp h) fun a Q=>?_;refine O Q.2.symm ?_;exact .inl ⟨a,Q.1,rfl⟩
 .rw[List.getElem?_append_right (by rw[List.length_map];exact q),List.length_map]at h;cases e:k - tb.an.length with
  | zero=>rw[e]at h;refine O (sos h) ?_;exact .inr ⟨Nat.le_antisymm (Nat.sub_eq_zero_iff_le.mp e) q,rfl⟩
  | succ m=>have h:=e▸h;exact nos h
theorem insL_addr(h:(insL dx L x)[k]?=some l) :l.addr=dx∨l.addr=L:=by
 rcases insL_cases h with⟨a,_,rfl⟩ | ⟨_,rfl⟩
 .exact .inl rfl
 .exact .inr rfl
theorem rd_live{v:Value}(r:rdL h l v) :∃o,h.get? l.addr=some o:=by cases l with
 | dict a x=>obtain⟨m,⟨o,_,_,e,_⟩,_⟩:=r;exact⟨o,e⟩
 | cell a=>refine ex1 r fun o r=>?_;have e:=r.1;exact⟨o,e⟩
 | attr a ns x=>obtain⟨m,⟨⟨o,_,_,e,_⟩,_⟩,_⟩:=r;exact⟨o,e⟩
theorem Step.more(S:Step y bv own₀ Z₀ s₀ ai Z s)(hi:∀j l,y.loc j=some l→j<i)(hb:∀j∈bv,j∈bv')(hn:∀(k:Nat) l,ls[k]?=some l→s₀.heap.get? l.addr=none∨i+k∈bv') :Step (y.more i ls p) bv' own₀ Z₀ s₀ ai Z s where
 sh:=S.sh
 ext:=⟨fun a o e w f=>S.ext.keep a o e (fun q=>w (by
   rcases q with q | q | ⟨j,k,hk,rfl⟩
   .exact .inl q
   .exact .inr (.inl q)
   .exact .inr (.inr ⟨j,k,more_get hi hk,rfl⟩))) f,S.ext.live,S.ext.fram⟩
 zm:=S.zm
 zn:=S.zn
 on:=S.on
 bind:=fun j l v nb hl r=>by
  rcases more_cases hl with⟨hj,q⟩ | ⟨hj,hl⟩
  .rcases hn _ l q with e | e
   .refine ex1 (rd_live r) fun o e'=>?_;rw[e]at e';exact nos e'
   .rw[Nat.add_sub_cancel' hj]at e;exact absurd e nb
  .exact S.bind j l v (fun q=>nb<|hb j q) hl r
theorem Step.thru(S:Step y bv ai Z s own₂ Z₂ s₂)(S2:Step (y.more i ls p) bv' own₂ Z₂ s₂ own₃ Z₃ s₃)(hi:∀j l,y.loc j=some l→j<i)(hb:∀j∈bv',j∈bv∨i≤j)(hn:∀(k:Nat) l,ls[k]?=some l→l.addr=y.L∨s.heap.get? l.addr=none) :Step y bv ai Z s own₃ Z₃ s₃ where
 sh:=by refine ex2 S.sh fun h1 t1 e=>?_;refine ex2 S2.sh fun h2 t2 e'=>?_;subst e;exact⟨h2,t2,e'⟩
 ext:=⟨fun a o e w f=>S2.ext.keep a o (S.ext.keep a o e w f) (fun q=>by
   rcases q with q | q | ⟨j,k,hk,rfl⟩
   .cases e2:own₂ a with
    | none=>exact q e2
    | some m=>
     rcases S.on a m e2 with e3 | e3
     .exact w (.inl (by refine O e3 ?_;exact fun n=>by cases n))
     .have e:=e3▸e;exact nos e
   .exact w (.inr<|.inl q)
   .rcases more_cases hk with⟨_,hk⟩ | ⟨_,hk⟩
    .rcases hn _ k hk with q | q
     .exact w (.inr<|.inl q)
     .have e:=q▸e;exact nos e
    .exact w (.inr<|.inr ⟨j,k,hk,rfl⟩)) f,fun a o e=>let ⟨o',e'⟩:=S.ext.live a o e;S2.ext.live a o' e',fun a o f e=>let ⟨sl,e'⟩:=S.ext.fram a o f e;let ⟨sl',e''⟩:=S2.ext.fram a _ f e';⟨sl',e''⟩⟩
 zm:=fun a z=>S2.zm a<|S.zm a z
 zn:=fun a z=>by
  rcases S2.zn a z with z | z | z
  .exact S.zn a z
  .cases e:own₂ a with
   | none=>exact absurd e z
   | some m=>exact(S.on a m e).elim (fun q=>.inr<|.inl (by refine O q ?_;exact fun n=>by cases n)) fun q=>.inr<|.inr q
  .exact .inr (.inr<|S.old a z)
 on:=fun a m e=>(S2.on a m e).elim (S.on a m) fun q=>.inr<|S.old a q
 bind:=fun j l v nb hl r=>S2.bind j l v (fun q=>(hb j q).elim nb fun q=>absurd (hi j l hl)<|Nat.not_lt.mpr q) (more_get hi hl)<|S.bind j l v nb hl r
theorem Inv.unmore(I:Inv (y.more i ls p) ai Z h Y)(wf:y.Wf)(hi:∀j l,y.loc j=some l→j<i)(hs:y.slf=none)(hf:∀j,i≤j→j<i+ls.length→ ∀sl,Y[j]?=some sl→sl = .no) :Inv y ai Z h Y where
 wf:=wf
 base:=I.base
 zb:=I.zb
 zo:=I.zo
 zl:=fun j k hk=>I.zl j k<|more_get hi hk
 ol:=fun j k hk=>I.ol j k<|more_get hi hk
 zL:=I.zL
 oL:=I.oL
 zF:=I.zF
 oF:=I.oF
 zlv:=I.zlv
 olv:=I.olv
 flv:=I.flv
 ok:=fun j k hk=>I.ok j k<|more_get hi hk
 nsL:=I.nsL
 sf:=fun p e=>by have e:=hs▸e;exact nos e
 at':=fun j sl e n=>by
  obtain⟨k,v,hk,r1,r⟩:=I.at' j sl e n;rcases more_cases hk with⟨hj,q⟩ | ⟨hj,hk⟩
  .exact absurd (hf j hj (by refine O (Nat.add_sub_cancel' hj).symm ?_;exact Nat.add_lt_add_left (List.getElem?_eq_some_iff.mp q).1 i) sl e) n
  .exact⟨k,v,hk,r1,r⟩
theorem wf_more(wf:y.Wf)(hi:∀j l,y.loc j=some l→j<i)(hx:∀j,y.loc j≠some (.dict y.L x))(hd:∀j l,y.loc j=some l→l.addr≠dx)(hL:dx≠y.L)(hF:¬y.F dx)(nd:tb.an.Nodup) :(y.more i (insL dx y.L x) p).Wf where
 apart:=fun j j' k k' hk hk' hne hq=>by
  rcases more_cases hk with⟨h1,e1⟩ | ⟨h1,e1⟩ <;> rcases more_cases hk' with⟨h2,e2⟩ | ⟨h2,e2⟩
  .rcases insL_cases e1 with⟨a,ha,rfl⟩ | ⟨ha,rfl⟩ <;> rcases insL_cases e2 with⟨b,hb,rfl⟩ | ⟨hb,rfl⟩
   .refine .attr dx tb.an a b rfl rfl fun q=>hne ?_;subst q;have:=(List.getElem_inj (h₀:=(List.getElem?_eq_some_iff.mp ha).1) (h₁:=(List.getElem?_eq_some_iff.mp hb).1) nd).mp<|(List.getElem?_eq_some_iff.mp ha).2.trans (List.getElem?_eq_some_iff.mp hb).2.symm;exact O (Nat.sub_add_cancel h1).symm<|O this<|O (Nat.sub_add_cancel h2) rfl
   .exact absurd hq hL
   .exact absurd hq.symm hL
   .exact absurd (O (Nat.sub_add_cancel h1).symm<|O ha<|O hb.symm<|O (Nat.sub_add_cancel h2) rfl) hne
  .rcases insL_cases e1 with⟨a,ha,rfl⟩ | ⟨ha,rfl⟩
   .exact absurd hq.symm (hd _ _ e2)
   .cases k' with
    | dict b z=>cases hq;exact .dict _ x z rfl rfl fun q=>hx j'<|q▸e2
    | cell b=>exact absurd hq.symm<|wf.cl _ _ e2
    | attr b ns z=>exact absurd hq.symm<|wf.al _ _ _ _ e2
  .rcases insL_cases e2 with⟨a,ha,rfl⟩ | ⟨ha,rfl⟩
   .exact absurd hq (hd _ _ e1)
   .cases k with
    | dict b z=>cases hq;exact .dict _ z x rfl rfl fun q=>hx j<|q▸e1
    | cell b=>exact absurd hq<|wf.cl _ _ e1
    | attr b ns z=>exact absurd hq<|wf.al _ _ _ _ e1
  .exact wf.apart j j' k k' e1 e2 hne hq
 nf:=fun j k hk=>by
  refine hidG fun G1 g1=>?_;rcases more_cases hk with⟨_,e⟩ | ⟨_,e⟩
  .refine g1 ?_;rcases insL_addr e with q | q <;> refine O q ?_
   .exact hF
   .exact wf.nL
  .refine g1 ?_;exact wf.nf j k e
 nL:=wf.nL
 cl:=fun j a hk=>by
  refine hidG fun G g=>?_;rcases more_cases hk with⟨_,e⟩ | ⟨_,e⟩
  .refine g ?_;rcases insL_cases e with⟨_,_,q⟩ | ⟨_,q⟩ <;> cases q
  .exact g (wf.cl j a e)
 al:=fun j a ns z hk=>by
  rcases more_cases hk with⟨_,e⟩ | ⟨_,e⟩
  .rcases insL_cases e with⟨_,_,q⟩ | ⟨_,q⟩ <;> cases q;exact hL
  .exact wf.al j a ns z e
theorem newAs_len:(newAs V).length=tb.an.length:=by unfold newAs;rw[List.length_map,List.length_range]
theorem newAs_get{k j:Nat}(h:(newAs V)[k]?=some j) :k<tb.an.length∧j=V.hi+k:=by unfold newAs at h;rw[List.getElem?_map]at h;refine ex1 (Option.map_eq_some_iff.mp h) fun m q=>?_;refine O q.2.symm ?_;obtain⟨h1,h2⟩:=List.getElem?_eq_some_iff.mp q.1;rw[List.length_range]at h1;rw[List.getElem_range]at h2;exact⟨h1,by exact O h2 rfl⟩
theorem newAs_mem{k:Nat}(h:k<tb.an.length) :V.hi+k∈newAs V:=by unfold newAs;exact List.mem_map.mpr ⟨k,List.mem_range.mpr h,rfl⟩
theorem newSc_as{kk:Nat} :(newSc V kk x).as=newAs V:=by
 show(tb.an.zip<|newAs V).map (·.2)=newAs V
 exact List.map_snd_zip<|Nat.le_of_eq newAs_len
theorem zip_lookup:∀{as:ax}{is:aw}{a:Str}{j:Nat},(as.zip is).lookup a=some j→ ∃k:Nat,as[k]?=some a∧is[k]?=some j:=by intro as;induction as with
 | nil=>intro is a j h;exact nos h
 | cons b as ih=>intro is a j h;cases is with
  | nil=>exact nos h
  | cons m is=>rw[List.zip_cons_cons,List.lookup_cons]at h;cases e:a==b with
   | true=>have h:=e▸h;refine O (sos h).symm ?_;exact⟨0,by refine O (beq_iff_eq.mp e) ?_;rfl,rfl⟩
   | false=>have h:=e▸h;exact ex1 (ih h) fun k q=>(⟨k+1,q.1,q.2⟩)
theorem insL_at{a:Str}(h:tb.an[k]?=some a) :(insL dx L x)[k]?=some (.attr dx tb.an a):=by unfold insL;refine O (List.getElem?_append_left (by rw[List.length_map];exact(List.getElem?_eq_some_iff.mp h).1))<|O (List.getElem?_map)<|O h ?_;rfl
theorem insL_self:(insL dx L x)[tb.an.length]?=some (.dict L x):=by unfold insL;refine O (List.getElem?_append_right (by rw[List.length_map];exact Nat.le_refl _)) ?_;rw[List.length_map,Nat.sub_self];rfl
theorem insL_len:(insL dx L x).length=tb.an.length+1:=by unfold insL;rw[List.length_append,List.length_map];rfl
theorem ins_more{kk:Nat}{bv₀:aw}(ok:FnOk A V ao y c bv own₀)(hx:V.names.lookup x=some .local)(cls:IsK kk p.2)(nc:∀c,p.2.data≠ .cls c)(dic:p.2.dict=some dx)(ne:dx≠p.1)(hd:∀j l,y.loc j=some l→l.addr≠dx)(hL:dx≠y.L) :
  InsOk (newSc V kk x) ao (y.more V.hi (insL dx y.L x) p) p dx where
 slf:=rfl
 cls:=cls
 nc:=nc
 dic:=dic
 ne:=ne
 lk:=(ok.kd x).trans hx
 ls:=by exact O ok.le<|more_at insL_self
 an:=fun a j h=>by obtain⟨k,Q⟩:=zip_lookup h;obtain⟨_,rfl⟩:=newAs_get Q.2;exact⟨List.mem_of_getElem? Q.1,more_at<|insL_at Q.1⟩
 as:=fun k j h=>by obtain⟨h1,rfl⟩:=newAs_get<|newSc_as▸h;exact⟨_,List.getElem?_eq_getElem h1,more_at<|insL_at<|List.getElem?_eq_getElem h1⟩
 len:=by exact O newSc_as newAs_len
 full:=fun j l h q=>by
  refine O newSc_as ?_;rcases more_cases h with⟨hj,h⟩ | ⟨_,h⟩
  .rcases insL_cases h with⟨a,ha,_⟩ | ⟨_,rfl⟩
   .have:=newAs_mem (V:=V) (List.getElem?_eq_some_iff.mp ha).1
    rw[Nat.add_sub_cancel' hj]at this;exact this
   .exact absurd q.symm hL
  .exact absurd q (hd _ _ h)
 zd:=fun j l h q=>by
  rcases more_cases h with⟨hj,h⟩ | ⟨_,h⟩
  .rcases insL_cases h with⟨a,_,rfl⟩ | ⟨_,rfl⟩
   .exact⟨a,rfl⟩
   .exact absurd q.symm hL
  .exact absurd q (hd _ _ h)
theorem fn_more{kk:Nat}(ok:FnOk A V ao y c bv own₀)(hx:V.names.lookup x=some .local)(J:InsOk (newSc V kk x) ao (y.more V.hi (insL dx y.L x) p) p dx)(hne:tb.an≠ []) :
  FnOk A (newSc V kk x) ao (y.more V.hi (insL dx y.L x) p) c (bv++List.map (V.hi + ·) (List.range<|tb.an.length+1)) own₀ where
 en:= {
  stk:=ok.en.stk
  hi:=fun j l h=>by
   show j<V.hi+tb.an.length+1
   rcases more_cases h with⟨hj,h⟩ | ⟨hj,h⟩
   .have q:=(List.getElem?_eq_some_iff.mp h).1;rw[insL_len]at q;refine O (Nat.add_sub_cancel' hj).symm ?_;rw[Nat.add_assoc];exact Nat.add_lt_add_left q _
   .exact Nat.lt_of_lt_of_le hj (Nat.le_trans (Nat.le_add_right _ _)<|Nat.le_add_right _ 1)
  kind:=ok.en.kind
  glob:=ok.en.glob
  blt:=ok.en.blt
  frame:=ok.en.frame
  top:=ok.en.top
  var:=fun z j h=>(ok.en.var z j h).imp (fun q=>⟨q.1,more_get ok.en.hi q.2⟩) fun⟨q,c,q1,q2⟩=>⟨q,c,q1,more_get ok.en.hi q2⟩
  gl:=ok.en.gl
  cf:=ok.en.cf
  ins:=fun j0_=>⟨p,dx,J⟩
  nsi:=fun z j h p' j0_ q=>by
   refine ex1 (ok.loc h) fun l hl=>?_
   have:=ok.en.hi j l hl;exact absurd this<|Nat.not_lt.mpr (by refine O (show V.hi+tb.an.length=j from q).symm ?_;exact Nat.le_add_right _ _)
  slo:=fun p' j0_=>⟨_,more_at insL_self⟩}
 nf:=ok.nf
 bv:=fun j hp h=>by
  by_cases q:V.hi≤j
  .refine List.mem_append_right _ (List.mem_map.mpr ⟨j - V.hi,List.mem_range.mpr ?_,Nat.add_sub_cancel' q⟩);exact Nat.sub_lt_left_of_lt_add q (by rw[← Nat.add_assoc];exact h)
  .exact List.mem_append_left _ (ok.bv j hp<|Nat.not_le.mp q)
 ni:=ok.ni
 kd:=ok.kd
 le:=ok.le
 lv:=fun j0_ j1_ j2_=>.inr fun q=>by
  have:((newSc V kk x).as).length=0:=by show(List.map _ (newSc V kk x).ats).length=0;refine O q ?_;rfl
  rw[newSc_as,newAs_len]at this;exact hne<|List.length_eq_zero_iff.mp this
 sl:=fun q=>by
  have:((newSc V kk x).as).length=0:=by show(List.map _ (newSc V kk x).ats).length=0;refine O q ?_;rfl
  rw[newSc_as,newAs_len]at this;exact absurd (List.length_eq_zero_iff.mp this) hne
theorem mi_ok{k:Nat}(h:k<2) :tb.m0≤mi k∧kf (mi k)=k:=by
 rcases k with _ | _ | k
 .exact⟨Nat.le_refl _,rfl⟩
 .exact⟨by show 27≤34;decide,rfl⟩
 .exact absurd h (Nat.not_lt.mpr<|Nat.le_add_left 2 k)
structure Made(y:Lay)(Z:Addr→Prop)(s:Shared)(outs:List Slot)(xa:Addr)(ox:Obj)(dx:Addr)(own':Addr→Option Nat)(Z':Addr→Prop)(s':Shared) :Prop where
 sh:∃h' tk,s'={s with heap:=h',toks:=tk}
 keep:∀a o,s.heap.get? a=some o→ ¬y.F a→a≠y.L→s'.heap.get? a=some o
 live:∀a o,s.heap.get? a=some o→ ∃o',s'.heap.get? a=some o'
 fram:∀a o,y.F a∨a=y.L→s.heap.get? a=some o→ ∃sl,s'.heap.get? a=some {o with slots:=sl}
 zm:∀a,Z a→Z' a
 zn:∀a,Z' a→Z a∨s.heap.get? a=none
 on:∀a k,own' a=some k→s.heap.get? a=none
 gh:Gh (fun a=>y.F a∨a=y.L) own' Z' s'.heap
 ins:InsAt (fun a=>y.F a∨a=y.L) own' Z' s'.heap xa ox dx
 ats:AtsAt (some (xa,ox,dx)) own' Z' s'.heap outs
 len:tb.an.length≤outs.length
 fx:s.heap.get? xa=none
 fd:s.heap.get? dx=none
theorem new_call{kk:Nat}{d:DefRec}{cr:ClsRec}{C:Addr}{X:aB}{vs:ay}{o:aA Rv}{outs:List Slot}{as:aw}{Q:Value→Shared→Prop}{E:Value→Shared→Prop}(R:Rn A c n)(en:EnvOk A V ao y)(hcr:tb.cr kk=some cr∧kk < 2)(hC:mg cr.name=some (.ref C))(hd:tb.fn[mi kk]?=some d)(hdn:d.name = "__init__")(hal:as.length=tb.an.length)
  (I:Inv y ai Z s.heap Y) (RA:RepAll s.heap Z vs X) (hc:c.call (mi kk) (newAts as++X.map .fz)=some (o,outs)) (hn:isN o=true) (K:∀xa ox dx own' Z' s',IsK kk ox→Made y Z s outs xa ox dx own' Z' s'→Q (.ref xa) s') :wpAny (model prog w) A (call (.ref C) vs) Q E s:=by
 refine hidG fun G1 g1=>?_;refine ex3 (R.gd.pl kk cr hcr.1) fun C' N mN j=>?_;have hC':=j.1;have P:=j.2.1;have hna:=j.2.2.1;have hme:=j.2.2.2;have hC':=hC▸hC';cases hC';refine hidG fun G2 g2=>?_;obtain⟨hmem,hnn,z,hz⟩:=hme (mi kk) d (mi_ok hcr.2) hd;refine hidG fun G3 g3=>?_;obtain⟨fa,fo,pm,cd,doc,h1,h2,h3,h4,h5⟩:=P.meths _ hmem;refine hidG fun G5 g5=>?_;obtain⟨hh,g,dd0,t,os⟩:=s;refine g5 ?_;refine hidG fun G4 g4=>?_;obtain⟨nm,q,bs,sn,sub,col,ddd,k0,k1,k2,k3,k5,hCo⟩:=(P.cls.keeps I.base).obj;refine g4 ?_;refine g3 ?_;refine g2 ?_;refine g1 ?_;refine wpAny_call_obj_init PySem.F.objNew hCo (P.cls.keeps I.base).ns (by refine O hdn.symm ?_;exact h1) (I.base _ _ h2) h3 fun h' x dx Mk=>?_;refine ex1 Mk.inst fun ox U=>?_;have hdd:=Mk.dict ox U.1;obtain⟨hne,hnsd⟩ :dx≠x∧h'.Ns1 dx fun j0_=>none:=by
  rcases U.2.2.2 with⟨hn0,_⟩ | ⟨d',hd',hne',hns'⟩
  .have hdd:=hn0▸hdd;exact nos hdd
  .have hdd:=hd'▸hdd;refine O (sos hdd).symm ?_;exact⟨hne',hns'⟩
 have gh:Gh (fun a=>y.F a∨a=y.L) (fun j0_=>none) (fun a=>Z a∨a=x) h':=⟨fun a o e=>Mk.keeps a o<|I.base a o e,fun a o e=>.inl<|I.zb a o e,fun j0_ j1_=>rfl,fun a z f=>by
   rcases z with z | rfl
   .exact f.elim (I.zF a z) fun e=>I.zL<|e▸z
   .exact f.elim (I.fresh Mk.newX).2.1 fun e=>(I.fresh Mk.newX).1<|.inr<|.inl e,fun a n=>absurd rfl n,fun a z=>by
   rcases z with z | rfl
   .exact ex1 (I.zlv a z) fun o e=>(⟨o,Mk.keeps a o e⟩)
   .exact⟨_,U.1⟩,fun a n=>absurd rfl n,fun a f=>by
   rcases f with f | rfl
   .exact ex1 (I.flv a f) fun o J=>(⟨o,Mk.keeps a o J.1,J.2⟩)
   .refine ex4 I.nsL fun m o j0_ j1_ u=>?_;have e:=u.1;have hd':=u.2.1;exact⟨o,Mk.keeps _ o e,fun vs q=>by have q:=hd'▸q;exact nomatch q⟩⟩
 have ins:InsJ (fun a=>y.F a∨a=y.L) (fun j0_=>none) (fun a=>Z a∨a=x) h' (some (x,ox,dx)):=fun x' o' dx' e=>by cases e;exact⟨.inr rfl,U.1,U.2.2.1,hdd,hne,fun z=>z.elim (I.fresh Mk.newD).2.2 hne,rfl,fun f=>f.elim (I.fresh Mk.newD).2.1 fun e=>(I.fresh Mk.newD).1<|.inr<|.inl e,_,hnsd,fun z n=>absurd rfl n⟩
 have hln:(newAts as).length=tb.an.length:=by unfold newAts;rw[List.length_map];exact hal
 have sl:SlotsAt (some (x,ox,dx)) (fun j0_=>none) (fun a=>Z a∨a=x) h' (newAts as++X.map .fz) vs:=by
  refine⟨by refine O List.length_append ?_;rw[hln,List.length_map];refine O RA.length.symm ?_;rfl,fun k sl l e hl n=>?_,fun k sl v e e'=>?_⟩
  .have hk:k<tb.an.length:=(locJ_some hl).1;rw[List.getElem?_append_left (by refine O hln ?_;exact hk)]at e;unfold newAts at e;rw[List.getElem?_map]at e;obtain⟨_,q0⟩:=Option.map_eq_some_iff.mp e;exact absurd q0.2.symm n
  .have e:(newAts as++X.map .fz)[tb.an.length+k]?=some sl:=e;rw[List.getElem?_append_right (by refine O hln ?_;exact Nat.le_add_right _ _),hln,Nat.add_sub_cancel_left,List.getElem?_map]at e;refine hidG fun G7 g7=>?_;obtain⟨d',hd',rfl⟩:=Option.map_eq_some_iff.mp e;refine g7 ?_;refine hidG fun G6 g6=>?_;obtain⟨v',hv',r⟩:=RA.get hd';have e':=hv'▸e';obtain rfl:=sos e';exact g6<|⟨(fun q=>by cases q),r.mono (fun a o j0_ e=>Mk.keeps a o e) fun j0_ z=>.inl z⟩
 have key:=R.cs (mi kk) _ o outs hc d hd (some (x,ox,dx)) fa (⟨⟨fun q=>nos q.symm,fun q=>absurd (mi_ok hcr.2).1 (Nat.not_le.mpr q)⟩,(fun x' o' dx' e=>by cases e; exact (mi_ok hcr.2).2.symm▸⟨cr,C,hcr.1,hC,U.2.1⟩),fo,_,pm,cd,doc,h2,h4,h5⟩) (A.under (.builtin "type.__call__" ⟨.ref C :: vs,[]⟩)) _ _ _ ⟨h',g,dd0,t,os⟩ vs (by show A.depth+1+2 * n≤999; have:=R.dep; exact (Ln [A.2,n] (.w (.a (.p 1 .x) (.m 2 .y)) (.c 999)) [Gl (.p 1 (.a .x (.m 2 .y))) (.c 999)] rfl this)) (by show A.units+1+8 * n≤4000; have:=R.un; exact (Ln [A.5,n] (.w (.a (.p 1 .x) (.m 8 .y)) (.c 4000)) [Gl (.p 4 (.a .x (.m 8 .y))) (.c 4000)] rfl this)) R.hh en.stk gh ins sl;refine wpAny_call (codeAny_mono key fun r s' P=>?_);obtain ⟨own',Z',G,J',T,at',ln,_,⟨rv,v,q,rfl,R'⟩ | ⟨nm',ea,q,_⟩⟩:=P
 .subst q;have hv:v = .none:=by cases rv with
   | fz d=>refine hidG fun G8 g8=>?_;cases d with
    | none=>refine g8 ?_;exact(Rep.dat R').none
    | _=>refine g8 ?_;exact nomatch hn
   | _=>exact nomatch hn
  refine⟨hv,K x ox dx own' Z' s' ⟨cr,C,hcr.1,hC,U.2.1⟩ ⟨T.sh,fun a o e f l=>T.ext.keep a o (Mk.keeps a o e) (fun q=>q.elim (fun q=>q rfl) fun⟨_,_,q⟩=>by cases q;have e:=Mk.newD▸e;exact nos e) fun q=>q.elim f l,fun a o e=>T.ext.live a o<|Mk.keeps a o e,fun a o f e=>T.ext.fram a o f<|Mk.keeps a o e,fun a z=>T.zm a<|.inl z,fun a z=>?_,fun a k e=>?_,G,J' _ _ _ rfl,at',ln,Mk.newX,Mk.newD⟩⟩
  .have nn:h'.get? a=none→hh.get? a=none:=fun q=>by
    cases e:hh.get? a with
    | none=>rfl
    | some o=>have q:=(Mk.keeps a o e)▸q;cases q
   rcases T.zn a z with(z | rfl) | z | z
   .exact .inl z
   .exact .inr Mk.newX
   .exact absurd rfl z
   .exact .inr (nn z)
  .rcases T.on a k e with q | q
   .exact nos q
   .cases e':hh.get? a with
    | none=>rfl
    | some o=>have q:=(Mk.keeps a o e')▸q;exact nomatch q
 .subst q;exact nomatch hn
theorem Made.back{outs:List Slot}{xa:Addr}{ox:Obj}(I:Inv y ai Z s.heap Y)(ah:Made y Z s outs xa ox dx own' Z' s') :Inv y ai Z' s'.heap Y∧Step y bv ai Z s ai Z' s':=by
 have kz:∀a o,Z a→s.heap.get? a=some o→s'.heap.get? a=some o:=fun a o z e=>ah.keep a o e (I.zF a z) fun q=>I.zL<|q▸z;have ko:∀a o,ai a≠none→s.heap.get? a=some o→s'.heap.get? a=some o:=fun a o z e=>ah.keep a o e (I.oF a z) fun q=>z<|q▸I.oL;have slL:∀o,s.heap.get? y.L=some o→ ∃sl,s'.heap.get? y.L=some {o with slots:=sl}:=fun o e=>ah.fram y.L o (.inr rfl) e;have rdk:∀i l v,y.loc i=some l→rdL s.heap l v→rdL s'.heap l v:=fun i l v hl hv=>by
  by_cases e:l.addr=y.L
  .cases l with
   | dict a x=>obtain⟨m,hv⟩:=hv;subst e;exact⟨m,Ns_slots hv.1 slL,hv.2⟩
   | cell a=>exact absurd e<|I.wf.cl i a hl
   | attr a ns x=>exact absurd e<|I.wf.al i a ns x hl
  .exact hv.keeps fun o e'=>ah.keep _ o e' (I.wf.nf i l hl) e
 have okk:∀i l,y.loc i=some l→okL s'.heap l:=fun i l hl=>by
  have hv:=I.ok i l hl;by_cases e:l.addr=y.L
  .cases l with
   | dict a x=>obtain⟨m,hn⟩:=hv;subst e;exact⟨m,Ns_slots hn slL⟩
   | cell a=>exact absurd e<|I.wf.cl i a hl
   | attr a ns x=>exact absurd e<|I.wf.al i a ns x hl
  .exact hv.keeps fun o e'=>ah.keep _ o e' (I.wf.nf i l hl) e
 have zloc:∀i l,y.loc i=some l→ ¬Z' l.addr:=fun i l hl z=>by
  obtain⟨o,e⟩:=(I.ok i l hl).live;rcases ah.zn _ z with z | z
  .exact I.zl i l hl z
  .rw[z]at e;exact nos e
 refine⟨⟨I.wf,ah.gh.base,ah.gh.zb,fun a z=>?_,zloc,I.ol,fun z=>ah.gh.zF _ z<|.inr rfl,I.oL,fun a z f=>ah.gh.zF a z<|.inl f,I.oF,ah.gh.zlv,fun a q=>?_,fun a f=>ah.gh.flv a<|.inl f,okk,?_,fun p e=>(I.sf p e).mono kz ah.zm fun l v hl r=>rdk _ l v hl r,fun i s0 e n=>?_⟩,⟨ah.sh,⟨fun a o e w f=>ah.keep a o e f fun q=>w<|.inr<|.inl q,ah.live,fun a o f e=>ah.fram a o (.inl f) e⟩,ah.zm,fun a z=>(ah.zn a z).imp id .inr,fun a i e=>.inl e,fun i l v j0_ hl hv=>rdk i l v hl hv⟩⟩
 .rcases ah.zn a z with z | z
  .exact I.zo a z
  .cases q:ai a with
   | none=>rfl
   | some i=>obtain⟨o,e⟩:=I.olv a (by refine O q ?_;exact fun n=>by cases n);rw[z]at e;exact nos e
 .obtain⟨o,e⟩:=I.olv a q;exact ah.live a o e
 .obtain⟨m,hn⟩:=I.nsL;exact⟨m,Ns_slots hn slL⟩
 .obtain⟨l,v,hl,hv,sv⟩:=I.at' i s0 e n;exact⟨l,v,hl,rdk i l v hl hv,sv.mono kz ah.zm (fun j0_ q=>q) fun a o q=>ko a o (by refine O q ?_;exact fun n=>by cases n)⟩
noncomputable def ownN(i:Nat)(ai own':Addr→Option Nat) :Addr→Option Nat:=fun a=>match ai a with
 | some j=>some j
 | none=>match own' a with
  | some k=>if k<tb.an.length then some (i+k) else none
  | none=>none
theorem ownN_some{m:Nat}(h:ownN i ai own' a=some m) :ai a=some m∨ ∃k,own' a=some k∧k<tb.an.length∧m=i+k:=by unfold ownN at h;cases e:ai a with
 | some j=>rw[e]at h;exact .inl h
 | none=>rw[e]at h;cases e':own' a with
  | none=>rw[e']at h;exact nos h
  | some k=>
   rw[e']at h;have h:(if k<tb.an.length then some (i+k) else none)=some m:=h;by_cases q:k<tb.an.length
   .rw[if_pos q]at h;refine O (sos h).symm ?_;exact .inr ⟨k,rfl,q,rfl⟩
   .rw[if_neg q]at h;exact nos h
theorem ownN_old{m:Nat}(h:ai a=some m) :ownN i ai own' a=some m:=by unfold ownN;rw[h]
theorem ownN_new(h:ai a=none)(h':own' a=some k)(hk:k<tb.an.length) :ownN i ai own' a=some (i+k):=by unfold ownN;exact O h<|O h'<|if_pos hk
theorem newAs_nd:(newAs V).Nodup:=by unfold newAs;exact List.Pairwise.map _ (fun a b h q=>h<|Nat.add_left_cancel q) List.nodup_range
theorem Made.inv{outs:List Slot}{xa:Addr}{ox:Obj}{h2:Heap}{m:Str→Option Value}(hi:∀j l,y.loc j=some l→j<V.hi)(hx:∀j,y.loc j≠some (.dict y.L x))(nd:tb.an.Nodup)(I:Inv y ai Z s.heap Y)(ah:Made y Z s outs xa ox dx own' Z' s')(hm:s'.heap.Ns y.L m)(hm':h2.Ns y.L fun z=>if z=x then some (.ref xa) else m z)(hs:Heap.SameBut y.L s'.heap h2) :
  Inv (y.more V.hi (insL dx y.L x) (xa,ox)) (ownN V.hi ai own') Z' h2 (setAts Y (newAs V) outs):=by
 have I':=(ah.back (bv:=[]) I).1;have fd:=I.fresh ah.fd;have kp:∀b o,b≠y.L→s'.heap.get? b=some o→h2.get? b=some o:=fun b o n e=>hs.extBut b o n e;have dL:dx≠y.L:=fun q=>fd.1<|.inr<|.inl q;have od:ai dx=none:=by cases q:ai dx with
  | none=>rfl
  | some k=>exact absurd (.inl (by refine O q ?_;exact fun n=>by exact nomatch n)) fd.1
 have zL:∀a,Z' a→a≠y.L:=fun a z q=>I'.zL<|q▸z;have nN:∀a,ai a=none→own' a=none→ownN V.hi ai own' a=none:=fun a e e'=>by unfold ownN;exact O e<|O e' rfl
 have onn:∀a k,own' a=some k→ai a=none:=fun a k e=>by cases q:ai a with
  | none=>rfl
  | some j=>obtain⟨o,e'⟩:=I.olv a (by refine O q ?_;exact fun n=>by exact nomatch n);have e':=(ah.on a k e)▸e';exact nos e'
 have oL:own' y.L=none:=by cases q:own' y.L with
  | none=>rfl
  | some k=>exact absurd (.inr rfl)<|ah.gh.oF y.L (by refine O q ?_;exact fun n=>by exact nomatch n)
 have ne:∀a,ownN V.hi ai own' a≠none→ai a≠none∨own' a≠none:=fun a h=>by
  by_cases e:ai a=none
  .exact .inr fun e'=>h<|nN a e e'
  .exact .inl e
 have lo:∀j l,y.loc j=some l→own' l.addr=none:=fun j l hl=>by cases q:own' l.addr with
  | none=>rfl
  | some k=>obtain⟨o,e⟩:=(I.ok j l hl).live;have e:=(ah.on _ k q)▸e;exact nos e
 have nL:∀a,ownN V.hi ai own' a≠none→a≠y.L:=fun a h q=>(ne a h).elim (fun h=>h<|q▸I'.oL) fun h=>h<|q▸oL;refine⟨wf_more I.wf hi hx (fun j l hl q=>fd.1<|.inr<|.inr ⟨j,l,hl,q⟩) dL fd.2.1 nd,fun a o e=>kp a o (zL a<|I'.zb a o e)<|I'.base a o e,I'.zb,fun a z=>nN a (I'.zo a z)<|ah.gh.zo a z,fun j l hl=>?_,fun j l hl=>?_,I'.zL,nN _ I'.oL oL,I'.zF,fun a h=>(ne a h).elim (I'.oF a) fun h f=>ah.gh.oF a h<|.inl f,fun a z=>?_,fun a h=>?_,fun a f=>?_,fun j l hl=>?_,⟨_,hm'⟩,fun p e=>?_,fun j sl e n=>?_⟩
 .rcases more_cases hl with⟨_,hl⟩ | ⟨_,hl⟩
  .rcases insL_addr hl with q | q <;> refine O q ?_
   .exact ah.ins.zd
   .exact I'.zL
  .exact I'.zl j l hl
 .rcases more_cases hl with⟨_,hl⟩ | ⟨_,hl⟩
  .rcases insL_addr hl with q | q <;> refine O q ?_
   .exact nN _ od ah.ins.od
   .exact nN _ I'.oL oL
  .exact nN _ (I'.ol j l hl) (lo j l hl)
 .obtain⟨o,e⟩:=I'.zlv a z;exact⟨o,kp a o (zL a z) e⟩
 .obtain⟨o,e⟩:=(ne a h).elim (I'.olv a)<|ah.gh.olv a;exact⟨o,kp a o (nL a h) e⟩
 .obtain⟨o,Q⟩:=I'.flv a f;exact⟨o,kp a o (fun q=>I.wf.nL<|q▸f) Q.1,Q.2⟩
 .rcases more_cases hl with⟨_,hl⟩ | ⟨_,hl⟩
  .rcases insL_cases hl with⟨a,_,rfl⟩ | ⟨_,rfl⟩
   .exact okL.keeps (l:=.attr dx tb.an a) (fun o e=>kp _ o dL e) ah.ins.ok
   .exact⟨_,hm'⟩
  .by_cases q:l.addr=y.L
   .cases l with
    | dict a z=>subst q;exact⟨_,hm'⟩
    | cell a=>exact absurd q<|I.wf.cl _ _ hl
    | attr a ns z=>exact absurd q<|I.wf.al _ _ _ _ hl
   .exact(I'.ok j l hl).keeps fun o e=>kp _ o q e
 .refine O (sos e).symm ?_;exact⟨ah.ins.zx,kp _ _ (zL _ ah.ins.zx) ah.ins.ob,_,more_at insL_self,_,hm',if_pos rfl⟩
 .have kz:∀a o,Z' a→s'.heap.get? a=some o→h2.get? a=some o:=fun a o z e=>kp a o (zL a z) e;rcases setAts_get newAs_nd (by refine O newAs_len ?_;exact ah.len) e with⟨k,hk,ho⟩ | ⟨_,e⟩
  .obtain⟨h1,rfl⟩:=newAs_get hk;obtain⟨v,r,sv⟩:=ah.ats k sl (.attr dx tb.an tb.an[k]) ho (by show(tb.an[k]?).map _=_;refine O (List.getElem?_eq_getElem h1) ?_;rfl) n;exact⟨_,v,more_at<|insL_at<|List.getElem?_eq_getElem h1,r.keeps fun o e=>kp _ o dL e,sv.mono kz (fun j0_ z=>z) (fun a q=>ownN_new (onn a k q) q h1) fun a o q e=>kp a o (fun q'=>by have q:=q'▸q;have q:=oL▸q;exact nos q) e⟩
  .obtain⟨l,v,hl,r,sv⟩:=I'.at' j sl e n;refine⟨l,v,more_get hi hl,?_,sv.mono kz (fun j0_ z=>z) (fun a q=>ownN_old q) fun a o q e=>kp a o (fun q'=>by rw[q']at q;have q:=I'.oL▸q;exact nos q) e⟩;by_cases q:l.addr=y.L
   .cases l with
    | dict a z=>
     subst q;refine ex1 r fun m2 r=>?_;have h3:=r.1;have h4:=r.2;have em:m2 z=m z:=by refine ex3 h3 fun o es ep h3=>?_;have g1:=h3.1;have g2:=h3.2.1;have g3:=h3.2.2.2;refine hidG fun G g=>?_;obtain⟨o',es',ep',g1',g2',_,g3'⟩:=hm;have g1':=g1▸g1';obtain rfl:=sos g1';have g2':=g2▸g2';injection g2' with g2';subst g2';refine g ?_;rw[← g3,g3']
     exact⟨_,hm',by show(if z=x then some (.ref xa) else m z)=some v;refine O (if_neg (show ¬z=x from fun q=>hx j<|q▸hl))<|O em.symm ?_;exact h4⟩
    | cell a=>exact absurd q<|I.wf.cl _ _ hl
    | attr a ns z=>exact absurd q<|I.wf.al _ _ _ _ hl
   .exact r.keeps fun o e=>kp _ o q e
theorem Made.step{outs:List Slot}{xa:Addr}{ox:Obj}{h2:Heap}{tk:Nat}{m:Str→Option Value}(hx:∀j,y.loc j≠some (.dict y.L x))(I:Inv y ai Z s.heap Y)(ah:Made y Z s outs xa ox dx own' Z' s')(hm:s'.heap.Ns y.L m)(hm':h2.Ns y.L fun z=>if z=x then some (.ref xa) else m z)(hs:Heap.SameBut y.L s'.heap h2) :
  Step y bv ai Z s (ownN i ai own') Z' {s' with heap:=h2,toks:=tk} where
 sh:=by refine ex2 ah.sh fun h1 t1 e=>?_;subst e;exact⟨_,_,rfl⟩
 ext:=⟨fun a o e w f=>hs.extBut a o (fun q=>w<|.inr<|.inl q)<|ah.keep a o e f fun q=>w<|.inr<|.inl q,fun a o e=>by
   obtain⟨o',e'⟩:=ah.live a o e;by_cases q:a=y.L
   .exact ex3 hm' fun o2 j0_ j1_ hm'=>(⟨o2,q▸hm'.1⟩)
   .exact⟨o',hs.extBut a o' q e'⟩,fun a o f e=>let ⟨sl,e'⟩:=ah.fram a o (.inl f) e;⟨sl,hs.extBut a _ (fun q=>I.wf.nL<|q▸f) e'⟩⟩
 zm:=ah.zm
 zn:=fun a z=>(ah.zn a z).imp id .inr
 on:=fun a k e=>(ownN_some e).imp id fun⟨k',h,_⟩=>ah.on a k' h
 bind:=fun j l v j0_ hl r=>by
  have r:=(ah.back (bv:=[]) I).2.bind j l v (fun q=>by cases q) hl r;by_cases q:l.addr=y.L
  .cases l with
   | dict a z=>
    cases q;obtain⟨m2,r⟩:=r;have h3:=r.1;have h4:=r.2;have em:m2 z=m z:=by refine hidG fun G g=>?_;refine ex3 h3 fun o es ep h3=>?_;have g1:=h3.1;have g2:=h3.2.1;have g3:=h3.2.2.2;obtain⟨o',es',ep',g1',g2',_,g3'⟩:=hm;rw[g1]at g1';obtain rfl:=sos g1';have g2':=g2▸g2';cases g2';refine g ?_;rw[← g3,g3']
    exact⟨_,hm',by show(if z=x then some (.ref xa) else m z)=some v;refine O (if_neg (show ¬z=x from fun q=>hx j<|q▸hl))<|O em.symm ?_;exact h4⟩
   | cell a=>exact absurd q<|I.wf.cl _ _ hl
   | attr a ns z=>exact absurd q<|I.wf.al _ _ _ _ hl
  .exact r.keeps fun o e=>hs.extBut _ o q e
theorem wr_more(hi:∀j l,y.loc j=some l→j<i)(h:y.wr ai a) :(y.more i ls p).wr ai a:=by
 rcases h with h | h | ⟨j,k,hk,rfl⟩
 .exact .inl h
 .exact .inr (.inl h)
 .exact .inr (.inr ⟨j,k,more_get hi hk,rfl⟩)
theorem rv_unmore{r:Rv}{v:Value}{h₀:Heap}(hi:∀j l,y.loc j=some l→j<i)(hv:∃d,rvV r=some d)(R:RvAt (y.more i ls p) ai Z h₀ h r v) :RvAt y ai Z h₀ h r v:=by cases r with
 | fz d=>exact R
 | ai d=>obtain⟨a,R⟩:=R;exact⟨a,R.1,R.2.1,fun q=>R.2.2.1<|wr_more hi q,R.2.2.2⟩
 | pl p=>obtain⟨d,hv⟩:=hv;exact nos hv
theorem nx_no{j:Nat}(h:V.hi≤j)(h':j<V.hi+(tb.an.length+1))(hne:tb.an≠ []) :j∈nx (newAs V):=by
 rcases Nat.lt_or_ge j (V.hi+tb.an.length) with q | q
 .refine List.mem_cons_of_mem _ ?_;have:=newAs_mem (V:=V) (k:=j - V.hi)<|Nat.sub_lt_left_of_lt_add h q;rw[Nat.add_sub_cancel' h]at this;exact this
 .have e:j=V.hi+tb.an.length:=Nat.le_antisymm (Nat.le_of_lt_succ h') q;have hl:(newAs V).getLast? = some (V.hi+(tb.an.length - 1)):=by refine O (List.getLast?_eq_getElem?)<|O newAs_len ?_;unfold newAs;refine O (List.getElem?_map)<|O (List.getElem?_range<|Nat.sub_lt (List.length_pos_iff.mpr hne) Nat.one_pos) ?_;rfl
  unfold nx;refine O hl<|O e ?_;show V.hi+tb.an.length∈(V.hi+(tb.an.length - 1)+1)::newAs V
  rw[Nat.add_assoc];exact O (Nat.sub_add_cancel<|List.length_pos_iff.mpr hne) List.mem_cons_self
theorem ss_new{kk:Nat}{cr:ClsRec}{p np cpos pos:Pos}{args:az}{M:List Ex}{rest:List Stmt}{body:List St}(R:Rn A c n)(ok:FnOk A V ao y c bv own₀)(hcr:tb.cr kk=some cr∧kk < 2)(hg:V.isG cr.name)(hx:V.ats=[]∧V.names.lookup x=some .local∧V.vars.lookup x=none∧(x == ("__debug__" :Str))=false)(ces:CEs V args M)(hne:args≠ []∧(∃d,tb.fn[mi kk]?=some d∧d.name = "__init__"))
  (Hb:∀y' bv',FnOk A (newSc V kk x) ao y' c bv' own₀→SS A c y' bv' own₀ Z₀ s₀ (execs rest ao) body) :
  SS A c y bv own₀ Z₀ s₀ (execs (.Assign [.Name x p] (.Call (.Name cr.name np) args [] cpos) pos::rest) ao) [.new (mi kk) (newAs V) M body]:=by
 intro ai Z s Y ak h I S;have h:exS c (.new (mi kk) (newAs V) M body) Y=some ak:=by
  rw[exSs_cons]at h;rcases bnd_some h with⟨e,f,hm,rfl⟩ | ⟨k,f,hm,h⟩
  .exact hm
  .cases k with
   | next=>have h:=sos h;exact O h.symm hm
   | ret r=>have h:=sos h;exact O h.symm hm
 rw[exS_new]at h;refine hidG fun G g=>?_;obtain⟨hne,d,hne⟩:=hne;have hd:=hne.1;have hdn:=hne.2;refine ex3 (R.gd.pl kk cr hcr.1) fun C N mN Q=>?_;have hC:=Q.1;have P:=Q.2.1;have hna:=Q.2.2.1;have hme:=Q.2.2.2;have F:=(sound_all R V _ ces ao y ok.en).imp fun j0_ j1_ h=>(⟨h.1,h.2.1⟩ :CE V _ _∧SE A c y _ _)
 have hxl:∀j,y.loc j≠some (.dict y.L x):=fun j q=>(ok.lv j x q).elim (fun n=>n hx.2.2.1) fun n=>n hx.1;have hann:tb.an≠ []:=fun q=>nomatch q;refine g ?_;refine wpAny_execs_cons<|wpAny_Assign_Name (Call_Name rfl<|load_glob R.gd ok.en I hg hC ?_) rfl;cases args with
 | nil=>exact absurd rfl hne
 | cons e es=>
 refine hidG fun G2 g2=>?_;cases M with
 | nil=>refine g2 ?_;exact F.elim
 | cons z zs=>
 refine g2 ?_;refine callWith_cls P.cls ?_ (F.1.1.star ao es) (by have q:=star_all (pos:=cpos) F.2.2;rw[← List.not_any_eq_all_not]at q;exact Bool.not_eq_true' _▸q);refine wpAny_mono (seqEs h .refl (fun j0_ h=>h) (fun o e=>se_s F ai Z s Y o e I) fun rs fr₁ own₁ Z₁ s₁ vs e₁ h I₁ S₁ S' Rs=>?_) (fun j0_ j1_ q=>q) fun j0_ j1_ p=>p.strong ok.en (bv_hi V _ ces) .refl;refine⟨I₁.base,?_⟩;have S₁:Step y bv ai Z s own₁ Z₁ s₁:=(S₁.strong ok.en<|bv_hi V _ ces).sub fun j0_ h=>by exact nomatch h
 cases hds:rvVs rs with
 | none=>have h:=hds▸h;exact nos h
 | some X=>
 have h:=hds▸h;dsimp only at h;cases hc:c.call (mi kk) (newAts (newAs V)++X.map .fz) with
 | none=>rw[hc]at h;exact nos h
 | some o=>
 have h:=hc▸h;dsimp only at h;cases hn:isN o.1 with
 | false=>rw[hn]at h;exact nos h
 | true=>
 rw[hn]at h;have h:=(if_pos rfl)▸h;refine new_call R ok.en hcr hC hd hdn newAs_len I₁ (Rs.repAll hds) hc hn fun xa ox dx own' Z' s' ck ah=>?_;obtain⟨m,hm⟩:=(ah.back (bv:=bv) I₁).1.nsL;refine wpAny_storeName_local ((ok.kd x).trans hx.2.1) (by refine O ok.le ?_;exact hm) (fun h' hn' hs=>?_) (by refine O ok.en.kind ?_;rfl);rw[ok.le]at hn' hs;have fd:=I₁.fresh ah.fd;have dL:dx≠y.L:=fun q=>fd.1<|.inr<|.inl q;have S₂:∀tk,Step y bv ai Z s (ownN V.hi own₁ own') Z' {s' with heap:=h',toks:=tk}:=fun tk=>S₁.trans<|ah.step hxl I₁ hm hn' hs;cases hb:exSs c body (setAts fr₁ (newAs V) o.2) with
 | none=>have h:=hb▸h;exact nos h
 | some ob=>
 rw[hb]at h;refine O (sos (show some (ob.1,clr ob.2<|nx<|newAs V)=some ak from h)).symm ?_;have bk:∀{o3:Addr→Option Nat}{Z3:Addr→Prop}{s3:Shared}{tk:Nat},Inv (y.more V.hi (insL dx y.L x) (xa,ox)) o3 Z3 s3.heap ob.2→Step (y.more V.hi (insL dx y.L x) (xa,ox)) (bv++List.map (V.hi + ·) (List.range<|tb.an.length+1)) (ownN V.hi own₁ own') Z' {s' with heap:=h',toks:=tk} o3 Z3 s3→Inv y o3 Z3 s3.heap (clr ob.2<|nx<|newAs V)∧Step y bv ai Z s o3 Z3 s3:=fun {o3 Z3 s3 tk} I3 S3=>by refine⟨(I3.clr _).unmore I.wf ok.en.hi (ok.sl hx.1) fun j h1 h2=>clr_no<|.inr<|nx_no h1 (by rw[insL_len]at h2;exact h2) hann,(S₂ tk).thru S3 ok.en.hi (fun j hj=>(List.mem_append.mp hj).imp id fun hj=>?_) fun k l hl=>(insL_addr hl).symm.imp id fun q=>by refine O q ?_;exact(S₁.old dx ah.fd)⟩;refine ex1 (List.mem_map.mp hj) fun m u=>?_;obtain rfl:=u.2;exact Nat.le_add_right _ _
 refine wpAny_mono (Hb _ _ (fn_more ok hx.2.1 (ins_more (p:=(xa,ox)) (bv₀:=bv) ok hx.2.1 ck ah.ins.nc ah.ins.dic ah.ins.ne (fun j l hl q=>fd.1<|.inr<|.inr ⟨j,l,hl,q⟩) dL) hann) _ _ _ _ _ hb (ah.inv (V:=V) ok.en.hi hxl (by decide) I₁ hm hn' hs)<|(S.trans<|S₂ _).more ok.en.hi (fun j0_ h=>List.mem_append_left _ h) fun k l hl=>?_) (fun f s₃ P=>?_) fun e s₃ P=>?_
 .rcases insL_cases hl with⟨a,_,rfl⟩ | ⟨rfl,rfl⟩
  .exact .inl (S.old dx<|S₁.old dx ah.fd)
  .exact .inr (List.mem_append_right _<|List.mem_map.mpr ⟨_,List.mem_range.mpr<|Nat.lt_succ_self _,rfl⟩)
 .refine hidG fun G1 g1=>?_;obtain⟨k,o3,Z3,q,I3,S3,fl⟩:=P;have U:=bk I3 S3;refine g1 ?_;refine⟨k,o3,Z3,q,U.1,U.2,?_⟩;cases k with
  | next=>exact fl
  | ret r=>exact ex1 fl fun v fl=>(⟨v,fl.1,rv_unmore ok.en.hi fl.2.2 fl.2.1,fl.2.2⟩)
 .obtain⟨nm',ea,o3,Z3,q,rfl,I3,S3,ag⟩:=P;obtain⟨I4,S4⟩:=bk I3 S3;exact⟨nm',ea,o3,Z3,q,rfl,I4,S4,ag.mono fun b j0_ j1_ h=>⟨(S₂ 0).old b h.1,fun q=>h.2.1<|wr_more ok.en.hi q,h.2.2⟩⟩
end
end Mv
end
section
set_option backward.match.sparseCases false
namespace Mv
open PySem PyProof.Rows
variable [Hp]
theorem Ns_det{h:Heap}{a:Addr}{m m':Str→Option Value}(x:h.Ns a m)(z:h.Ns a m')(k:Str) :m k=m' k:=by refine hidG fun G g=>?_;refine ex3 x fun o es ep x=>?_;have ho:=x.1;have hd:=x.2.1;have hk:=x.2.2.1;have hf:=x.2.2.2;obtain⟨o',es',ep',ho',hd',hk',hf'⟩:=z;rw[ho]at ho';obtain rfl:=sos ho';have hd':=hd▸hd';cases hd';refine g ?_;rw[← hf,hf']
section
variable {A:Around}{c:Cfg}{n:Nat}{ao:Env}{V:Sc}{y:Lay}
 {bv bv':aw} {ai own₁ own₀ own':Addr→Option Nat} {Z Z₁ Z₀ Z':Addr→Prop} {s s₁ s₀ s':Shared} {Y fr₁:Fm}
theorem ss_raise{k msg:Str}{np cpos pos ap:Pos}{kk:Nat}(R:Rn A c n)(ok:FnOk A V ao y c bv own₀)(hg:V.isG k)(hk:k∈tb.cl) :
  SS1 A c y bv own₀ Z₀ s₀ (exec (.Raise (some<|.Call (.Name k np) [.Constant (.str msg) kk ap] [] cpos) none pos) ao) (.raise k):=by
 intro ai Z s Y ak h I S;rw[exS_raise]at h;refine O (sos h).symm ?_;refine hidG fun G g1=>?_;obtain⟨C,Bb,newId,initId,bm,af,FB⟩:=R.gd.cl k hk;obtain⟨tl,N,nm,q,bs,hdct,sn,sub,ab,col,dd,k0,k1,k2,k3,k5,mN,hC,hN,hq,T⟩:=af.obj;refine g1 ?_;refine wpAny_Raise_call_subT (C:=C) (nm:=nm) (q:=q) (N:=N) (bs:=bs) (bm:=tl) (hdct:=hdct) (sn:=sn) (sub:=sub) (ab:=ab) (col:=col) (dd:=dd) (k0:=k0) (k1:=k1) (k2:=k2) (k3:=k3) (k5:=k5)
  FB (mN:=mN) (T.tail.hasType FB.hasBase) R.hh rfl (hq _<|.head _) (load_glob R.gd ok.en I hg af.bound ⟨rfl,?_⟩)
 refine Calls.evalArgs_plain<|Calls.spliced_cons<|wpAny_Constant_str (k:=kk) (pos:=ap)<|Calls.spliced_nil ?_;refine⟨rfl,(by show 1≤sizeLine;decide),I.base _ _ hC,hN.keeps I.base,T.tail.keeps I.base,fun h' e hm=>?_⟩;exact ex1 hm.there fun t Q=>(⟨k,e,ai,Z,rfl,rfl,I.grow hm.keeps,.grow hm.keeps,⟨hm.new,(I.fresh hm.new)⟩,_,_,C,mg,Q.1,⟨rfl,rfl⟩,rfl,R.gd.g,af.bound,.inl rfl⟩)
theorem HS.mem{hs:List ExceptHandler}{M:List (Str×ax×D)}(H:HS V hs M){nm:Str}{ak:aA Ctl×Fm}(h:exH nm M Y=some ak) :nm∈tb.cl:=by induction H with
 | nil=>exact nos h
 | @cons cn _ _ _ _ _ _ _ _ hm _ _ ih=>
  rw[exH_c]at h;by_cases q:(tb.hb cn).contains nm=true
  .exact List.contains_iff_mem.mp (List.all_eq_true.mp hm.2 nm<|List.contains_iff_mem.mp q)
  .rw[if_neg q]at h;exact ih h
theorem HV.se(V:Sc){A:Around}{e:Expr}{d:D}(h:HV e d) :∃x,SE A c y (eval e ao) x∧(∀Y,ev c x Y=some (.ok<|.fz d,Y))∧bvE x=[]:=by cases h with
 | one k=>exact⟨_,se_lit k,fun j0_=>rfl,rfl⟩
 | @two k1 k2 kk kk' kt p p' pos d1 d2 h1 h2=>exact⟨.tup [.lit d1,.lit d2],se_tup (V:=V) (M:=[.lit d1,.lit d2]) ⟨⟨.lit h1,se_lit h1⟩,(fun j0_ h=>nomatch h),⟨.lit h2,se_lit h2⟩,(fun j0_ h=>nomatch h),trivial⟩ (by show 2≤1000;decide),fun j0_=>rfl,rfl⟩
theorem handle_hs{hs:List ExceptHandler}{M:List (Str×ax×D)}{nm:Str}{a:Addr}{ak:aA Ctl×Fm}{Q:Flow→Shared→Prop}{E:Value→Shared→Prop}{P:Addr→Prop}(H:HS V hs M)(R:Rn A c n)(en:EnvOk (A.mark<|some<|.ref a) V ao y)(hn:nm∈tb.cl)
  (I:Inv y ai Z s.heap Y) (ag:ExcTr s.heap P a nm) (hP:∀b,P b→s₁.heap.get? b=none∧ ¬y.wr ai b∧ ¬y.F b∧ ¬Z b) (S:Step y bv own₁ Z₁ s₁ ai Z s) (hs0:∀b,s.heap.get? b=none→s₀.heap.get? b=none) (kQ:∀f s',PostS y bv s₀ own₁ Z₁ s₁ ak f s'→Q f s') (h:exH nm M Y=some ak) :
  wpAny (model prog w) A (handleBy (.ref a) ao hs) Q E s:=by
 induction H with
 | nil=>exact nos h
 | @cons cn p rp hp e d hs M hg hm hv _ ih=>
  rw[exH_c]at h;refine ex1 (R.gd.ask cn hm.1) fun ae J=>?_;refine wpAny_handleBy_cons (codeAny_handlers_test<|load_glob R.gd en I hg J.1 ?_) (by intro q;cases q);refine hidG fun G g1=>?_;obtain⟨pa,oe,vs,C,m,he,hc,hrest⟩:=id ag;refine g1 ?_;refine J.2 nm hn C ((Ns_det R.gd.g hrest.2.1 nm).trans hrest.2.2.1) prog w _ _ s a oe I.base he ⟨hc.1,hc.2,vs,hrest.1⟩ _ ?_;by_cases q:(tb.hb cn).contains nm=true
  .rw[if_pos q]at h;refine O q ?_;obtain rfl:=sos h;refine codeAny_handlers_suite<|land_exc ag fun h₃ lv₃ X₃=>?_;have S₃:Step y bv own₁ Z₁ s₁ ai Z {s with heap:=h₃}:=S.lv I lv₃ hP fun j0_ f=>f.elim;refine ex1 (HV.se V (A:=A.mark<|some<|.ref a) (c:=c) (ao:=ao) (y:=y) hv) fun x z=>?_;refine wpAny_execs_cons<|wpAny_Return_some<|wpAny_mono (z.1 ai Z {s with heap:=h₃} Y _ (z.2.1 Y)<|I.lv lv₃ (fun b p=>(hP b p).2) fun j0_ f=>f.elim) (fun v s' p=>?_) fun j0_ j1_ x=>x.elim;obtain⟨r,own',Z',q,I',S',R'⟩:=p;obtain rfl:=oki q;rw[z.2.2]at S';exact kQ _ _ ⟨.ret<|.fz d,own',Z',rfl,I',S₃.trans (S'.sub fun j0_ h=>by cases h),v,rfl,R',d,rfl⟩
  .rw[if_neg q]at h;exact O (Bool.eq_false_iff.mpr q)<|ih h
theorem ss_tryx{pos:Pos}{body:List Stmt}{hs:List ExceptHandler}{xb:List St}{M:List (Str×ax×D)}(R:Rn A c n)(ok:FnOk A V ao y c bv own₀)(H:HS V hs M)(hne:hs≠ [])(Hb:SS A c y bv own₀ Z₀ s₀ (execs body ao) xb) :
  SS1 A c y bv own₀ Z₀ s₀ (exec (.Try body hs [] [] pos) ao) (.tryx xb M):=by
 refine SS1.of fun ai Z s Y ak Q E kQ kE h I S=>?_;rw[exS_tryx]at h;refine ex2 (List.exists_cons_of_ne_nil hne) fun h0 hs z=>?_;subst z;refine wpAny_Try_except ?_;rcases hb:exSs c xb Y with _ | ⟨nm | k,fr₁⟩
 .have h:=hb▸h;exact nos h
 .rw[hb,tryO_err]at h;refine wpAny_mono (Hb ai Z s Y _ hb I S) (fun fl s' p=>?_) fun ev s₁ p=>?_
  .obtain⟨_,_,_,q,_⟩:=p;exact kre q
  obtain⟨nm',a,own₁,Z₁,q1,rfl,I₁,S₁,ag⟩:=p;refine hidG fun G2 g3=>?_;cases q1;dsimp only at I₁;refine ex2 ok.en.top fun e0 outer U=>?_;refine ex1 (frames_fun I₁ ok.en.stk) fun l u=>?_;have hl':=u.1;have FF:=u.2.1;have hfs:=u.2.2;rw[U.1]at hl';obtain rfl:=sos hl';refine g3 ?_;refine leave_exc U.1 U.2 FF ok.en.frame ag (fun b e=>⟨S₁.old b e,I₁.fresh e⟩) fun h₂ lv X₂=>?_;have S₂:Step y bv ai Z s own₁ Z₁ {s₁ with heap:=h₂}:=S₁.lv I₁ lv (fun b p=>p) hfs;exact handle_hs (s:= {s₁ with heap:=h₂}) (s₀:=s₀) H R {ok.en with stk:=ok.en.stk,top:=ok.en.top} (H.mem h) (I₁.lv lv (fun b p=>p.2) hfs) X₂ (fun b p=>p) S₂ (fun b e=>S.old b<|S₂.old b e) kQ h
 .rw[hb,tryO_ok]at h;obtain rfl:=sos h;refine wpAny_mono (Hb ai Z s Y _ hb I S) (fun fl s' p=>?_) fun j0_ j1_ x=>x.elim;obtain⟨k',own',Z',q,I',S',r⟩:=p;obtain rfl:=oki q;cases k with
  | next=>cases r;exact wpAny_execs_nil<|kQ _ _ ⟨.next,own',Z',rfl,I',S',rfl⟩
  | ret rv=>exact ex1 r fun v r=>(O r.1<|kQ _ _ ⟨.ret rv,own',Z',rfl,I',S',v,rfl,r.2⟩)
end
end Mv
end
section
set_option backward.match.sparseCases false
namespace Mv
open PySem PyProof.Rows
variable [Hp]
section
variable {A:Around}{c:Cfg}{n:Nat}{ao:Env}{V:Sc}{y:Lay}
 {bv bv':aw} {ai own₁ own₀ own':Addr→Option Nat} {Z Z₁ Z₀ Z':Addr→Prop} {s s₁ s₀ s':Shared} {Y fr₁:Fm}
theorem ss_no{st:Stmt} :SS1 A c y bv own₀ Z₀ s₀ (exec st ao) .no:=by intro ai Z s Y ak h I S;exact nos h
set_option tactic.hygienic true in
theorem asgT_val{pin:aw}{is:aw}{r:Rv}{fr₂:Fm}(h:asgT pin Y (.tup is) r=some fr₂) :∃X,rvV r=some (.tuple X)∧asgs pin Y is X=some fr₂:=by
 have h:(match rvV r with | some (.tuple X)=>asgs pin Y is X | _=>none)=some fr₂:=h;split at h
 .rename_i X hd;exact⟨X,hd,h⟩
 .exact nos h
theorem ss_asgT{es:az}{is:aw}{k:Nat}{p pos:Pos}{value:Expr}{e:Ex}(R:Rn A c n)(ok:FnOk A V ao y c bv own₀)(tg:TGs V es is)(ce:CE V value e)(hc:noComp value=true)(ht:noTup value=true) :
  SS1 A c y bv own₀ Z₀ s₀ (exec (.Assign [.Tuple es k p] value pos) ao) (.asg (.tup is) e):=by
 intro ai Z s Y ak h I S;refine Assign_Tuple (seqS ok.en ce (sound_all R V _ ce ao y ok.en).1 h I .refl fun r fr₂ own₂ Z₂ s₂ v e₁ h I₂ S₁ S₂ R₂=>?_) (show swapsWith value (some<|.Tuple es k p) pos.line ao=pure false from swaps_plain ce hc)<|swapped_no ce ht;refine ex1 (mo_s h) fun fr₃ z33=>?_;have h:=z33.2;refine O (sos h).symm ?_;refine hidG fun G g=>?_;refine ex1 (asgT_val z33.1) fun X q=>?_;obtain⟨Z₃,I₃,S₃,R₃⟩:=R₂.freeze I₂ S₁ q.1;exact g<|tgt_asg (t:=.tup is) ok R.hh (.tup (k:=k) (p:=p) tg) (d:=.tuple X) q.2 I₃ R₃ fun s' j0_ I' S'=>(⟨.next,own₂,Z₃,rfl,I',(S₃.sub fun j0_ h=>by cases h).trans S',rfl⟩)
end
end Mv
end
section
set_option backward.match.sparseCases false
namespace Mv
open PySem PyProof.Rows
variable [Hp]
section
variable {A:Around}{c:Cfg}{n:Nat}{ao:Env}{V:Sc}{y:Lay}{bv:aw}{own₀:Addr→Option Nat}{Z₀:Addr→Prop}{s₀:Shared}
noncomputable def SQ(A:Around)(c:Cfg)(y:Lay)(bv:aw)(own₀:Addr→Option Nat)(Z₀:Addr→Prop)(s₀:Shared)(ao:Env) :Sw→Prop
 | .st s z=>SS1 A c y bv own₀ Z₀ s₀ (exec s ao) z
 | .ss ss zs=>SS A c y bv own₀ Z₀ s₀ (execs ss ao) zs
theorem ss_all{V:Sc}{ss:List Stmt}{zs:List St}(h:CSs V ss zs) :∀(A:Around)(c:Cfg)(y:Lay)(bv:aw)(R:Rn A c n)(ok:FnOk A V ao y c bv own₀),SS A c y bv own₀ Z₀ s₀ (execs ss ao) zs:=
 @CT.rec (fun V q j0_=> ∀(A:Around)(c:Cfg)(y:Lay)(bv:aw)(R:Rn A c n)(ok:FnOk A V ao y c bv own₀),SQ A c y bv own₀ Z₀ s₀ ao q)
  (fun hx ce A c y bv R ok=>ss_asg R ok hx ce) (fun hx ce hc A c y bv R ok=>ss_asgA R ok hx ce hc) (fun hx ce ck A c y bv R ok=>ss_setI R ok hx ce ck) (fun hx ce hp A c y bv R ok=>ss_app R ok hx ce hp) (fun hx A c y bv R ok=>ss_tab0 R ok hx) (fun hx hz ce A c y bv R ok=>ss_tset R ok hx hz ce) (fun ce hc A c y bv R ok=>ss_exp R ok ce hc) (fun hx hp A c y bv R ok=>ss_rev R ok hx hp) (fun hf hx hl ces hn A c y bv R ok=>ss_mst R ok hf hx hl ces hn)
  (fun ce j0_ j1_ ia ib A c y bv R ok=>ss_iff R ok ce (ia A c y bv R ok)<|ib A c y bv R ok) (fun ce A c y bv R ok=>ss_ret R ok ce) (fun ce ca cb A c y bv R ok=>ss_retI R ok ce ca cb)
  (fun tg hz hit j0_ ib A c y bv R ok=>ss_for R ok tg hz hit<|ib A c y bv R ok) (fun ce j0_ ib A c y bv R ok=>ss_whl R ok ce<|ib A c y bv R ok) (fun hg hk A c y bv R ok=>ss_raise R ok hg hk) (fun j0_ H hne ib A c y bv R ok=>ss_tryx R ok H hne<|ib A c y bv R ok)
  (fun tg ce h1 h2 A c y bv R ok=>ss_asgT R ok tg ce h1 h2) (fun A c y bv R ok=>ss_no) (fun A c y bv R ok=>ss_nil) (fun j0_ j1_ i1 i2 A c y bv R ok=>ss_cons (i1 A c y bv R ok)<|i2 A c y bv R ok)
  (fun hcr hg hx ces hne j0_ ib A c y bv R ok=>ss_new R ok hcr hg hx ces hne fun y' bv' ok'=>ib A c y' bv' R ok') V (.ss ss zs) h
end
end Mv
end
section
set_option backward.match.sparseCases false
namespace Mv
open PySem PyProof.Rows
noncomputable def selfN(fn:Fn)(sn:Str) :ax:=if fn.na=0 then [] else [sn]
noncomputable def scOf(kk:Nat)(d:DefRec)(fn:Fn)(names:ax)(sn:Str) :Sc:= {names:=d.scope.names,vars:=names.zipIdx fn.na,hi:=fn.na+(names++selfN fn sn).length,sn:=sn,ats:=tb.an.zip<|List.range fn.na,k:=kk}
structure FOk(f:Nat)(d:DefRec)(fn:Fn)(names:ax)(sn:Str) :Prop where
 nd:(names++selfN fn sn).Nodup
 np:fn.np≤fn.na+names.length
 pn:fn.na≤fn.np
 na:fn.na=if f<tb.m0 then 0 else tb.an.length
 rb:fn.rb=rbF f
 kinds:∀x∈names,d.scope.names.lookup x=some .local∨d.scope.names.lookup x=some .cell
 skind:∀x∈selfN fn sn,d.scope.names.lookup x=some .local
 bind:∀(J:Ins)(vs:ay),naJ J=fn.na→fn.na+vs.length=fn.np→ ∀qual pm code doc,bindArgs (methDef d.name qual d.params d.body d.scope pm code doc) ⟨selfV J++vs,[]⟩=pure ((selfN fn sn++names.take (fn.np - fn.na)).zip<|selfV J++vs)
 body:CSs (scOf (kf f) d fn names sn) d.body fn.body
 co:d.scope.isCoroutine=false
 gen:d.scope.isGenerator=false
 kind:d.scope.kind = .function
 nofree:∀x∈d.scope.names,x.2≠ .free
variable [Hp]
theorem bindL_skip{k:Str→Option NameKind} :∀(bs:List (Str×Value))(m:Str→Option Value)(x:Str),x∉bs.map (·.1)→bindL k bs m x=m x:=by intro r m x h;induction r generalizing m x with
 | nil=>exact rfl
 | cons p0 r ih=>
  simp only[List.map_cons,List.mem_cons,not_or]at h;unfold bindL;refine O (ih _ x h.2) ?_;split
  .exact if_neg h.1
  .rfl
theorem bindL_get{k:Str→Option NameKind} :∀(bs:List (Str×Value))(m:Str→Option Value)(i:Nat)(x:Str)(v:Value),(bs.map (·.1)).Nodup→bs[i]?=some (x,v)→k x=some .local→bindL k bs m x=some v
 | [],_,_,_,_,_,h,_=>by simp at h
 | (n,u)::r,m,0,x,v,hn,h,hk=>by simp at h;obtain⟨rfl,rfl⟩:=h;unfold bindL;refine O (bindL_skip r _ n (List.nodup_cons.mp hn).1)<|O (if_pos hk) ?_;simp
 | (n,u)::r,m,i+1,x,v,hn,h,hk=>by unfold bindL;exact bindL_get r _ i x v (List.nodup_cons.mp hn).2 h hk
theorem bindC_skip{k:Str→Option NameKind} :∀(bs:List (Str×Value))(m:Str→Option Value)(x:Str),x∉bs.map (·.1)→bindC k bs m x=m x:=by intro r m x h;induction r generalizing m x with
 | nil=>exact rfl
 | cons p0 r ih=>
  simp only[List.map_cons,List.mem_cons,not_or]at h;unfold bindC;refine O (ih _ x h.2) ?_;split
  .rfl
  .exact if_neg h.1
theorem bindC_get{k:Str→Option NameKind} :∀(bs:List (Str×Value))(m:Str→Option Value)(i:Nat)(x:Str)(v:Value),(bs.map (·.1)).Nodup→bs[i]?=some (x,v)→k x≠some .local→bindC k bs m x=some v
 | [],_,_,_,_,_,h,_=>by simp at h
 | (n,u)::r,m,0,x,v,hn,h,hk=>by simp at h;obtain⟨rfl,rfl⟩:=h;unfold bindC;refine O (bindC_skip r _ n (List.nodup_cons.mp hn).1)<|O (if_neg hk) ?_;simp
 | (n,u)::r,m,i+1,x,v,hn,h,hk=>by unfold bindC;exact bindC_get r _ i x v (List.nodup_cons.mp hn).2 h hk
theorem cellsFrom_acc:∀(names:List (Str×NameKind))(n:Nat)(am:List (Str×Addr))(p:Str×Addr),p∈am→p∈cellsFrom n names am:=by intro r n am p h;induction r generalizing n am p h with
 | nil=>exact h
 | cons p0 r ih=>
  unfold cellsFrom;split
  .exact ih _ _ p (List.mem_cons_of_mem _ h)
  .exact ih _ _ p h
theorem cellsFrom_mem:∀(names:List (Str×NameKind))(n:Nat)(am:List (Str×Addr))(x:Str),(x,NameKind.cell)∈names→ ∃c,(x,c)∈cellsFrom n names am:=by intro r n am x h;induction r generalizing n am x with
 | nil=>cases h
 | cons p0 r ih=>
  obtain⟨nm,k⟩:=p0;unfold cellsFrom;rcases List.mem_cons.mp h with q | h
  .cases q;exact O (if_pos (by decide))<|⟨n,cellsFrom_acc r _ _ _ List.mem_cons_self⟩
  .split
   .exact ih _ _ x h
   .exact ih _ _ x h
theorem zipIdx_lookup:∀{names:ax}{x:Str}{i k:Nat},(names.zipIdx k).lookup x=some i→k≤i∧names[i - k]?=some x:=by intro l x i k h;induction l generalizing x i k with
 | nil=>exact nos h
 | cons a l ih=>rw[List.zipIdx_cons,List.lookup_cons]at h;cases hx:x==a with
  | true=>rw[hx]at h;refine O (sos h) ?_;simp only[beq_iff_eq]at hx;subst hx;exact⟨Nat.le_refl _,by simp⟩
  | false=>
   have q:=ih<|hx▸h;refine⟨by exact(Ln [k,i] (.w .x .y) [Gl (.p 1 .x) .y] rfl q.1),?_⟩;obtain⟨m,rfl⟩ :∃m,i=k+1+m:=⟨i - (k+1),by exact(Le [i,k,i - (k+(1:Nat))] (.e .x<|.a (.p 1 .y) .z) [Gq (.a .z<|.p 1 .y) .x] rfl<|Nat.sub_add_cancel (n:=i) (m:=k+(1:Nat)) q.1)⟩
   refine O (show k+1+m - k=m+1 from by exact(Le [k+(1:Nat)+m - k,m,k] (.e .x<|.p 1 .y) [Gp (.a .x .z)<|.a (.p 1 .z) .y] rfl<|Nat.sub_add_cancel (n:=k+(1:Nat)+m) (m:=k)<|Ln [k,m] (.w .x<|.a (.p 1 .x) .y) [Gl (.p 1 .x)<|.a (.p 1 .x) .y] rfl q.1))<|O (List.getElem?_cons_succ) ?_;exact((show k+1+m - (k+1)=m from by exact(Le [k+(1:Nat)+m - (k+(1:Nat)),m,k] (.e .x .y) [Gp (.a .x<|.p 1 .z)<|.a (.p 1 .z) .y] rfl<|Nat.sub_add_cancel (n:=k+(1:Nat)+m) (m:=k+(1:Nat)) q.1))▸q.2)
noncomputable def fnLoc(kindOf:Str→Option NameKind)(L:Addr)(cells:List (Str×Addr))(names:ax)(i:Nat) :Option Loc:=match names[i]? with
 | none=>none
 | some x=>if kindOf x=some .local then some (.dict L x) else(cells.lookup x).map .cell
set_option tactic.hygienic true in
theorem fnLoc_some{k:Str→Option NameKind}{L:Addr}{cells:List (Str×Addr)}{names:ax}{i:Nat}{l:Loc}(h:fnLoc k L cells names i=some l) :
  ∃x,names[i]?=some x∧((k x=some .local∧l = .dict L x)∨(k x≠some .local∧ ∃c,cells.lookup x=some c∧l = .cell c)):=by
 unfold fnLoc at h;split at h
 .exact nos h
 .rename_i x hx;refine⟨x,hx,?_⟩;split at h
  .rename_i hk;exact O (sos h)<|.inl ⟨hk,rfl⟩
  .rename_i hk;rw[Option.map_eq_some_iff]at h;obtain⟨c,h⟩:=h;refine O h.2.symm ?_;have hc:=h.1;exact .inr ⟨hk,c,hc,rfl⟩
theorem pins_mem:∀{args:List Slot}{k j:Nat}{sl:Slot},args[j]?=some sl→sl.lent=true→k+j∈pinsOf k args
 | [],_,_,_,h,_=>by simp at h
 | a::r,k,0,sl,h,hl=>by simp at h;subst h;rw[pinsOf_c];exact O (if_pos hl) List.mem_cons_self
 | a::r,k,j+1,sl,h,hl=>by
  have:=pins_mem (k:=k+1) (j:=j) (args:=r) h hl;rw[show k+1+j=k+(j+1) from by exact(Le [k,j] (.e (.a (.p 1 .x) .y)<|.a .x<|.p 1 .y) [] rfl)]at this;rw[pinsOf_c]
  split
  .exact List.mem_cons_of_mem _ this
  .exact this
set_option tactic.hygienic true in
theorem outs_at{own':Addr→Option Nat}{Z':Addr→Prop}{h:Heap} :∀{args:List Slot}{vs:ay}{Y:Fm}{k:Nat},(∀(j:Nat)(sl o:Slot)(v:Value),args[j]?=some sl→sl.lent=true→vs[j]?=some v→Y[j]?=some o→o≠ .no→SlotV h Z' (fun a=>own' a=some (k+j)) o v)→OutsAt own' Z' h k args vs (outsOf args Y):=by intro r vs Y k H;induction r generalizing vs Y k with
 | nil=>first | exact trivial | (cases vs <;> exact trivial)
 | cons a r ih=>cases vs with
  | nil=>exact trivial
  | cons v vs=>
    have tl:∀(j:Nat)(sl o:Slot)(u:Value),r[j]?=some sl→sl.lent=true→vs[j]?=some u→Y.tail[j]?=some o→o≠ .no→SlotV h Z' (fun a=>own' a=some (k+1+j)) o u:=fun j sl o u e1 hl e2 e3 n=>by
     have:=H (j+1) sl o u e1 hl e2 (by cases Y with
      | nil=>simp at e3
      | cons x M=>simpa using e3) n
     rwa [show k+(j+1)=k+1+j from by exact(Le [k,j] (.e (.a .x<|.p 1 .y)<|.a (.p 1 .x) .y) [] rfl)]at this
    rw[OutsAt_c,outsOf_c];split
    .rename_i hl;refine⟨Y.headD .no,outsOf r Y.tail,rfl,fun n=>?_,(ih tl)⟩;cases Y with
     | nil=>exact absurd rfl n
     | cons x M=>exact H 0 a x v rfl hl rfl rfl n
    .exact(ih tl)
theorem nodup_get{l:ax}{i j:Nat}(hn:l.Nodup)(hi:i<l.length)(h:l[i]?=l[j]?) :i=j:=by exact(List.getElem?_inj hi hn).mp h
end Mv
end
section
namespace Mv
open PySem PyProof.Rows
variable [Hp]
noncomputable def fnLay(J:Ins)(fn:Fn)(ao:Env)(names:ax)(sn:Str)(F:Addr→Prop) :Lay:=
 ⟨fun j=>if j<fn.na then locJ J j else fnLoc ao.kindOf ao.locals ao.cells (names++selfN fn sn) (j - fn.na),ao.locals,F,fn.na+names.length,J.map fun t=>(t.1,t.2.1)⟩
section
variable {J:Ins}{fn:Fn}{ao:Env}{names:ax}{sn:Str}{F:Addr→Prop}{j k:Nat}{l:Loc}{x:Str}
inductive FLoc(J:Ins)(fn:Fn)(ao:Env)(nms:ax)(j:Nat) :Loc→Prop
 | att {l:Loc} :j<fn.na→locJ J j=some l→FLoc J fn ao nms j l
 | loc {x:Str} :fn.na≤j→nms[j - fn.na]?=some x→ao.kindOf x=some .local→FLoc J fn ao nms j (.dict ao.locals x)
 | cell {x:Str} {c:Addr} :fn.na≤j→nms[j - fn.na]?=some x→ao.cells.lookup x=some c→FLoc J fn ao nms j (.cell c)
theorem fnLay_loc(h:(fnLay J fn ao names sn F).loc j=some l) :FLoc J fn ao (names++selfN fn sn) j l:=by
 have h:(if j<fn.na then locJ J j else fnLoc ao.kindOf ao.locals ao.cells (names++selfN fn sn) (j - fn.na))=some l:=h;by_cases q:j<fn.na
 .rw[if_pos q]at h;exact .att q h
 .rw[if_neg q]at h;obtain⟨x,hx,⟨hk,rfl⟩ | ⟨_,c,hc,rfl⟩⟩:=fnLoc_some h
  .exact .loc (Nat.not_lt.mp q) hx hk
  .exact .cell (Nat.not_lt.mp q) hx hc
theorem fnLay_l(h:(names++selfN fn sn)[k]?=some x)(hk:ao.kindOf x=some .local) :(fnLay J fn ao names sn F).loc (fn.na+k)=some (.dict ao.locals x):=by
 show(if fn.na+k<fn.na then _ else fnLoc _ _ _ _ (fn.na+k - fn.na))=_
 refine O (if_neg<|Nat.not_lt.mpr<|Nat.le_add_right _ _) ?_;rw[Nat.add_sub_cancel_left];unfold fnLoc;exact O h<|if_pos hk
theorem fnLay_c{c:Addr}(h:(names++selfN fn sn)[k]?=some x)(hk:ao.kindOf x=some .cell)(hc:ao.cells.lookup x=some c) :(fnLay J fn ao names sn F).loc (fn.na+k)=some (.cell c):=by
 show(if fn.na+k<fn.na then _ else fnLoc _ _ _ _ (fn.na+k - fn.na))=_
 refine O (if_neg<|Nat.not_lt.mpr<|Nat.le_add_right _ _) ?_;rw[Nat.add_sub_cancel_left];unfold fnLoc;refine O h ?_;show(if ao.kindOf x=some .local then _ else _)=_
 refine O (if_neg (by refine O hk ?_;intro z;cases z))<|O hc ?_;rfl
theorem fnLay_a(h:j<fn.na) :(fnLay J fn ao names sn F).loc j=locJ J j:=if_pos h
end
theorem zipIdx_has{l:ax}{x:Str}{k:Nat}(h:x∈l) :(l.zipIdx k).lookup x≠none:=by induction l generalizing k with
 | nil=>cases h
 | cons a l ih=>refine O List.zipIdx_cons<|O List.lookup_cons ?_;cases e:x==a with
  | true=>exact fun q=>nos q.symm
  | false=>
   rcases List.mem_cons.mp h with q | q
   .rw[q]at e;simp at e
   .exact ih q
theorem an_nd:tb.an.Nodup:=by show List.Nodup [("functions" :Str),"sorting","found","numbers","most","calls","tasks","told"]; decide
theorem an_ne:tb.an.length≠0:=by show 8≠0;decide
structure CC(J:Ins)(fn:Fn)(d:DefRec)(names:ax)(sn:Str)(ao:Env)(F:Addr→Prop)(ai:Addr→Option Nat)(Z:Addr→Prop)(s s₁:Shared)(args:List Slot)(vs:ay) :Prop where
 na:naJ J=fn.na
 nd:(names++selfN fn sn).Nodup
 kinds:∀x∈names,ao.kindOf x=some .local∨ao.kindOf x=some .cell
 skind:∀x∈selfN fn sn,ao.kindOf x=some .local
 kd:∀x,ao.kindOf x=d.scope.names.lookup x
 up:∀b o,s.heap.get? b=some o→b<ao.locals
 kp:∀b o,s.heap.get? b=some o→s₁.heap.get? b=some o
 same:∃h tk,s₁={s with heap:=h,toks:=tk}
 ns:∃m,s₁.heap.Ns ao.locals m
 cl:∀x c,ao.cells.lookup x=some c→ao.locals<c∧ ∃v,s₁.heap.IsCell c v
 ca:∀x z c,ao.cells.lookup x=some c→ao.cells.lookup z=some c→x=z
 cx:∀x,ao.kindOf x=some .cell→ ∃c,ao.cells.lookup x=some c
 ar:∀(k:Nat)(v:Value),vs[k]?=some v→ ∃l,(fnLay J fn ao names sn F).loc (fn.na+k)=some l∧rdL s₁.heap l v
 sr:∀x o dx,J=some (x,o,dx)→rdL s₁.heap (.dict ao.locals sn) (.ref x)
 G:Gh F ai Z s.heap
 IJ:InsJ F ai Z s.heap J
 SA:SlotsAt J ai Z s.heap args vs
section
variable {kk:Nat}{A:Around}{J:Ins}{fn:Fn}{d:DefRec}{ao:Env}{names:ax}{sn:Str}{F:Addr→Prop}{ai own':Addr→Option Nat}{Z Z':Addr→Prop}{s s₁ s':Shared}{args:List Slot}{vs:ay}{bv:aw}{fr':Fm}
theorem selfN_some(h:fn.na≠0) :selfN fn sn=[sn]:=if_neg h
theorem CC.att(C:CC J fn d names sn ao F ai Z s s₁ args vs){i:Nat}{l:Loc}(h:locJ J i=some l) :∃x o dx a,J=some (x,o,dx)∧l = .attr dx tb.an a∧tb.an[i]?=some a∧InsAt F ai Z s.heap x o dx∧dx<ao.locals:=by
 rcases J with _ | ⟨x,o,dx⟩
 .exact nos h
 .obtain⟨a,q⟩:=Option.map_eq_some_iff.mp h;refine O q.2.symm ?_;refine⟨x,o,dx,a,rfl,rfl,q.1,(C.IJ x o dx rfl),?_⟩;obtain⟨m,⟨o',_,_,e,_⟩,_⟩:=(C.IJ x o dx rfl).ok;exact C.up dx o' e
theorem CC.jna(C:CC J fn d names sn ao F ai Z s s₁ args vs)(h:J≠none) :fn.na=tb.an.length∧fn.na≠0:=by
 rcases J with _ | j
 .exact absurd rfl h
 .exact⟨C.na.symm,fun q=>an_ne<|C.na.trans q⟩
theorem CC.locA(C:CC J fn d names sn ao F ai Z s s₁ args vs){i:Nat}(h:i<fn.na) :∃l,locJ J i=some l:=by
 have h:=C.na▸h;rcases J with _ | ⟨x,o,dx⟩
 .cases h
 .exact⟨.attr dx tb.an<|tb.an[i]'h,by show Option.map _ _=_;refine O (List.getElem?_eq_getElem h) ?_;rfl⟩
theorem CC.lg(C:CC J fn d names sn ao F ai Z s s₁ args vs){i:Nat}{l:Loc}(h:(fnLay J fn ao names sn F).loc i=some l) :ao.locals≤l.addr∨locJ J i=some l:=by cases fnLay_loc h with
 | att q e=>exact .inr e
 | loc=>exact .inl<|Nat.le_refl _
 | cell _ _ hc=>exact .inl<|Nat.le_of_lt (C.cl _ _ hc).1
inductive LocS(y:Lay)(ao:Env)(i:Nat)(x:Str) :Prop
 | loc:y.loc i=some (.dict ao.locals x)→ao.kindOf x=some .local→LocS y ao i x
 | cell (c:Addr) :y.loc i=some (.cell c)→ao.kindOf x=some .cell→ao.cells.lookup x=some c→LocS y ao i x
theorem CC.locS(C:CC J fn d names sn ao F ai Z s s₁ args vs){k:Nat}{x:Str}(h:names[k]?=some x) :LocS (fnLay J fn ao names sn F) ao (fn.na+k) x:=by
 have h':(names++selfN fn sn)[k]?=some x:=by exact O (List.getElem?_append_left (List.getElem?_eq_some_iff.mp h).1) h
 rcases C.kinds x (List.mem_of_getElem? h) with q | q
 .exact .loc (fnLay_l h' q) q
 .exact ex1 (C.cx x q) fun c hc=>(.cell c (fnLay_c h' q hc) q hc)
theorem CC.self(C:CC J fn d names sn ao F ai Z s s₁ args vs)(h:J≠none) :(names++selfN fn sn)[names.length]?=some sn∧ao.kindOf sn=some .local∧(fnLay J fn ao names sn F).loc (fn.na+names.length)=some (.dict ao.locals sn):=by
 have e:=selfN_some (sn:=sn) (C.jna h).2;have h1:(names++selfN fn sn)[names.length]?=some sn:=by refine O (List.getElem?_append_right<|Nat.le_refl _) ?_;rw[Nat.sub_self];refine O e ?_;rfl
 have h2:=C.skind sn (by refine O e ?_;exact .head _);exact⟨h1,h2,fnLay_l h1 h2⟩
theorem CC.ats(C:CC J fn d names sn ao F ai Z s s₁ args vs) :(scOf kk d fn names sn).as=List.range fn.na:=by
 refine List.map_snd_zip ?_;refine O List.length_range ?_;rcases J with _ | j
 .exact C.na▸Nat.zero_le _
 .exact Nat.le_of_eq C.na.symm
theorem CC.no(C:CC J fn d names sn ao F ai Z s s₁ args vs) :(scOf kk d fn names sn).ats=[]↔J=none:=by
 rcases J with _ | j
 .refine⟨fun j0_=>rfl,fun j0_=>?_⟩;show tb.an.zip (List.range fn.na)=[]
  exact O C.na.symm List.zip_nil_right
 .refine⟨fun q=>?_,fun q=>nos q.symm⟩;have h1:((scOf kk d fn names sn).as).length=0:=by unfold Sc.as;refine O q ?_;rfl
  rw[C.ats,List.length_range]at h1;exact absurd h1 (C.jna (fun q=>nos q.symm)).2
theorem CC.insOk(C:CC J fn d names sn ao F ai Z s s₁ args vs){x:Addr}{o:Obj}{dx:Addr}(hK:IsK kk o)(hJ:J=some (x,o,dx)) :InsOk (scOf kk d fn names sn) ao (fnLay J fn ao names sn F) (x,o) dx:=by
 have ia:=C.IJ x o dx hJ;have hn:J≠none:=by exact O hJ (fun q=>nos q.symm)
 have lo:∀{k:Nat}{a:Str},tb.an[k]?=some a→(fnLay J fn ao names sn F).loc k=some (.attr dx tb.an a):=fun {k a} h=>by
  refine O (fnLay_a (by refine O ((C.jna hn).1) ?_;exact(List.getElem?_eq_some_iff.mp h).1))<|O hJ ?_;show Option.map _ _=_
  refine O h ?_;rfl
 have co:∀i l,(fnLay J fn ao names sn F).loc i=some l→l.addr=dx→locJ J i=some l:=fun i l h q=>by
  rcases C.lg h with g | g
  .refine hidG fun G g1=>?_;obtain⟨m,⟨o',_,_,e,_⟩,_⟩:=ia.ok;exact g1<|absurd (C.up dx o' e)<|Nat.not_lt.mpr<|q▸g
  .exact g
 refine⟨by unfold fnLay;refine O hJ ?_;rfl,hK,ia.nc,ia.dic,ia.ne,(C.self hn).2.1,(C.self hn).2.2,fun a i h=>?_,fun k i h=>?_,by refine O C.ats<|O List.length_range ?_;exact(C.jna hn).1,fun i l h q=>?_,fun i l h q=>?_⟩
 .refine ex1 (zip_lookup h) fun k u=>?_;refine ex1 (List.getElem?_eq_some_iff.mp u.2) fun h3 h4=>?_;rw[List.getElem_range]at h4;subst h4;exact⟨List.mem_of_getElem? u.1,lo u.1⟩
 .have h:=C.ats▸h;refine ex1 (List.getElem?_eq_some_iff.mp h) fun h3 h4=>?_;rw[List.getElem_range]at h4;subst h4;rw[List.length_range]at h3;have h3:=((C.jna hn).1)▸h3;exact⟨_,List.getElem?_eq_getElem h3,lo<|List.getElem?_eq_getElem h3⟩
 .refine O C.ats ?_;rw[List.mem_range];exact O C.na.symm<|(locJ_some<|co i l h q).1
 .refine ex4 (C.att<|co i l h q) fun j0_ j1_ j2_ a Q=>?_;have e1:=Q.1;have e2:=Q.2.1;rw[hJ]at e1;cases e1;exact⟨a,e2⟩
theorem CC.en(C:CC J fn d names sn ao F ai Z s s₁ args vs)(hK:∀x o dx,J=some (x,o,dx)→IsK kk o)(fro:FrOk F A)(hk:ao.scope.kind = .function)(hg:ao.globals=mainGlobals)(hb:ao.builtins=builtinsNs)(hf:ao.frame=some ao.locals) :EnvOk (A.deeper ao) (scOf kk d fn names sn) ao (fnLay J fn ao names sn F):=by
 refine⟨?_,fun i l h=>?_,hk,hg,hb,hf,(let ⟨l,hl,_⟩:=fro;⟨ao,l,Around.frames_deeper hl,rfl⟩),fun x i hx=>?_,fun x hx=>by rw[C.kd];exact hx,fun x hx=>by rw[C.kd];exact hx,fun ne=>?_,fun x i hx p hp q=>?_,fun p hp=>?_⟩
 .refine ex1 fro fun l fro=>?_;refine⟨_,Around.frames_deeper fro.1,fun e he=>?_⟩;rcases List.mem_cons.mp he with he | he
  .exact O he (⟨(by refine O hk ?_;intro q;cases q),_,hf,.inr rfl⟩)
  .obtain⟨h1,L,Q⟩:=fro.2 e he;exact⟨h1,L,Q.1,.inl Q.2⟩
 .have k2:∀{x:Str},fn.na≤i→(names++selfN fn sn)[i - fn.na]?=some x→i<fn.na+(names++selfN fn sn).length:=fun q hx=>by
   have:=(List.getElem?_eq_some_iff.mp hx).1;exact(Ln [i,fn.4,(names++selfN fn sn).length,i - fn.na] (.w (.p 1 .x)<|.a .y .z) [Gl (.p 1 .u) .z,Gf (.a .u .y) .x] rfl this<|Nat.sub_add_cancel (n:=i) (m:=fn.na) q)
  cases fnLay_loc h with
  | att q=>exact Nat.lt_of_lt_of_le q<|Nat.le_add_right _ _
  | loc q hx=>exact k2 q hx
  | cell q hx=>exact k2 q hx
 .have U:=zipIdx_lookup hx;have q:=U.1;have hx:=U.2;have ls:=C.locS hx;have ls:=(Nat.add_sub_cancel' q)▸ls;cases ls with
  | loc hl hk=>exact .inl ⟨hk,hl⟩
  | cell c hl hk hc=>exact .inr ⟨.inl hk,c,hc,hl⟩
 .refine hidG fun G g1=>?_;rcases hJ:J with _ | ⟨x,o,dx⟩
  .exact g1 (absurd (C.no.mpr hJ) ne)
  .exact g1 (⟨(x,o),dx,hJ▸C.insOk (hK _ _ _ hJ) hJ⟩)
 .have j:=zipIdx_lookup hx;have:=(List.getElem?_eq_some_iff.mp j.2).1;exact(Lf [i - fn.na,names.length,fn.4,i] [Gl (.p 1 .x) .y,Ge (.a .z .y) .u,Gf (.a .x .z) .u] rfl this q<|Nat.sub_add_cancel (n:=i) (m:=fn.na) j.1)
 .have hn:J≠none:=fun q=>by unfold fnLay at hp;have hp:=q▸hp;exact nos hp
  exact⟨_,(C.self hn).2.2⟩
set_option tactic.hygienic true in
theorem CC.inv(C:CC J fn d names sn ao F ai Z s s₁ args vs)(m:Nat) :Inv (fnLay J fn ao names sn F) ai Z s₁.heap (args++List.replicate m .no):=by
 have sm:∀{a b:Nat},a<b→b≤a→False:=fun h k=>Nat.lt_irrefl _<|Nat.lt_of_lt_of_le h k;have lk:∀{p:Prop}{i:Nat}{l:Loc},(fnLay J fn ao names sn F).loc i=some l→(∃o,s.heap.get? l.addr=some o)→(∀x o dx a,l = .attr dx tb.an a→InsAt F ai Z s.heap x o dx→p)→p:=fun {p i l} h e k=>by
  rcases C.lg h with g | g
  .exact ex1 e fun o e=>((sm (C.up _ o e) g).elim)
  .exact ex4 (C.att g) fun x o dx a Q=>(k x o dx a Q.2.1 Q.2.2.2.1)
 refine⟨⟨fun i j l k hl hk hne hq=>?_,fun i l hl f=>?_,fun f=>?_,fun i c hl q=>?_,fun i a ns x hl q=>?_⟩,fun b o e=>C.kp b o<|C.G.base b o e,C.G.zb,C.G.zo,fun i l hl z=>?_,fun i l hl=>?_,fun z=>?_,?_,C.G.zF,C.G.oF,fun b z=>?_,fun b q=>?_,fun b f=>?_,fun i l hl=>?_,C.ns,fun p hp=>?_,fun i sl e n=>?_⟩
 .have nd:∀{x z:Str},fn.na≤i→fn.na≤j→(names++selfN fn sn)[i - fn.na]?=some x→(names++selfN fn sn)[j - fn.na]?=some z→x≠z:=fun g1 g2 hx hz q=>by
   have:=nodup_get (i:=i - fn.na) (j:=j - fn.na) C.nd (List.getElem?_eq_some_iff.mp hx).1<|O hx<|O hz<|O q rfl;exact(Or.elim (Nat.lt_or_gt_of_ne hne) (fun mvs35=>(Lf [i - fn.na,j - fn.na,i,j,fn.4] [Gf .x .y,Gl (.p 1 .z) .u,Ge (.a .x<|.v 4) .z,Gf (.a .y<|.v 4) .u] rfl this mvs35 (Nat.sub_add_cancel (n:=i) (m:=fn.na) g1)<|Nat.sub_add_cancel (n:=j) (m:=fn.na) g2)) (fun mvs35=>(Lf [i - fn.na,j - fn.na,j,i,fn.4] [Ge .x .y,Gl (.p 1 .z) .u,Gf (.a .x<|.v 4) .u,Ge (.a .y<|.v 4) .z] rfl this mvs35 (Nat.sub_add_cancel (n:=i) (m:=fn.na) g1)<|Nat.sub_add_cancel (n:=j) (m:=fn.na) g2)))
  cases fnLay_loc hl with
  | att _ e=>refine ex4 (C.att e) fun x o dx a U=>?_;obtain rfl:=U.2.1;have e1:=U.1;have ha:=U.2.2.1;have lt:=U.2.2.2.2;cases fnLay_loc hk with
   | att _ e'=>refine ex4 (C.att e') fun x' o' dx' a' q8=>?_;refine O q8.2.1 ?_;have e1':=q8.1;have ha':=q8.2.2.1;rw[e1]at e1';cases e1';exact .attr dx tb.an a a' rfl rfl fun q=>hne<|nodup_get an_nd (List.getElem?_eq_some_iff.mp ha).1<|O ha<|O ha'<|O q rfl
   | loc=>exact(sm lt<|Nat.le_of_eq hq.symm).elim
   | cell _ _ hc=>exact(sm (Nat.lt_trans lt (C.cl _ _ hc).1)<|Nat.le_of_eq hq.symm).elim
  | loc g1 hx=>cases fnLay_loc hk with
   | att _ e'=>refine ex4 (C.att e') fun x' o' dx' a' q3=>?_;obtain rfl:=q3.2.1;exact(sm q3.2.2.2.2<|Nat.le_of_eq hq).elim
   | loc g2 hz=>exact .dict _ _ _ rfl rfl<|nd g1 g2 hx hz
   | cell _ _ hc=>exact(sm (C.cl _ _ hc).1<|Nat.le_of_eq hq.symm).elim
  | cell g1 hx hc=>cases fnLay_loc hk with
   | att _ e'=>refine ex4 (C.att e') fun x' o' dx' a' q2=>?_;obtain rfl:=q2.2.1;exact(sm (Nat.lt_trans q2.2.2.2.2 (C.cl _ _ hc).1)<|Nat.le_of_eq hq).elim
   | loc=>exact(sm (C.cl _ _ hc).1<|Nat.le_of_eq hq).elim
   | cell g2 hz hc'=>cases(hq:_=_);exact absurd (C.ca _ _ _ hc hc')<|nd g1 g2 hx hz
 .exact lk hl (let ⟨o,e,_⟩:=C.G.flv _ f;⟨o,e⟩) fun x o dx a e ia=>ia.fd (by have f:=e▸f;exact f)
 .exact ex1 (C.G.flv _ f) fun o q10=>(Nat.lt_irrefl _<|C.up _ o q10.1)
 .refine hidG fun G1 g3=>?_;cases fnLay_loc hl with
  | att _ e=>refine g3 ?_;refine ex4 (C.att e) fun j0_ j1_ j2_ j3_ q1=>?_;have e2:=q1.2.1;exact nomatch e2
  | cell _ _ hc=>exact g3<|sm (C.cl _ _ hc).1<|Nat.le_of_eq q
 .cases fnLay_loc hl with
  | att _ e=>refine ex4 (C.att e) fun j0_ j1_ j2_ j3_ q9=>?_;have e2:=q9.2.1;have lt:=q9.2.2.2.2;injection e2 with e2;subst e2;exact sm lt<|Nat.le_of_eq q.symm
 .exact lk hl (C.G.zlv _ z) fun x o dx a e ia=>ia.zd (by have z:=e▸z;exact z)
 .cases q:ai l.addr with
  | none=>rfl
  | some k=>exact lk hl (C.G.olv _ (by refine O q ?_;exact fun z=>nos z.symm)) fun x o dx a e ia=>by have q:=e▸q;have q:ai dx=some k:=q;rw[ia.od]at q;exact nos q
 .exact ex1 (C.G.zlv _ z) fun o e=>(Nat.lt_irrefl _<|C.up _ o e)
 .show ai ao.locals=none
  cases q:ai ao.locals with
  | none=>rfl
  | some k=>obtain⟨o,e⟩:=C.G.olv ao.locals (by refine O q ?_;exact fun z=>nos z.symm);exact absurd (C.up _ o e)<|Nat.lt_irrefl _
 .obtain⟨o,e⟩:=C.G.zlv b z;exact⟨o,C.kp b o e⟩
 .obtain⟨o,e⟩:=C.G.olv b q;exact⟨o,C.kp b o e⟩
 .obtain⟨o,q6⟩:=C.G.flv b f;exact⟨o,C.kp b o q6.1,q6.2⟩
 .cases fnLay_loc hl with
  | att _ e=>refine ex4 (C.att e) fun j0_ j1_ j2_ j3_ q0=>?_;refine O q0.2.1 ?_;exact okL.keeps (l:=.attr _ tb.an _) (h:=s.heap) (fun o=>C.kp _ o) q0.2.2.2.1.ok
  | loc=>exact C.ns
  | cell _ _ hc=>exact(C.cl _ _ hc).2
 .rcases hJ:J with _ | ⟨x,o,dx⟩
  .subst hJ;cases(hp:none=some p)
  .have ia:=C.IJ x o dx hJ;have hn:J≠none:=by exact O hJ (fun q=>nos q.symm)
   have q4:=C.self hn;have s3:=q4.2.2;have hp:=(show(fnLay J fn ao names sn F).slf=some (x,o) by unfold fnLay;refine O hJ ?_;rfl)▸hp;exact O (sos hp).symm<|O hJ.symm<|⟨ia.zx,C.kp _ _ ia.ob,_,s3,C.sr x o dx hJ⟩
 .rw[List.getElem?_append]at e;split at e
  .rename_i hlt;by_cases hi:i<fn.na
   .exact ex1 (C.locA hi) fun l hl=>(ex1 (C.SA.2.1 i sl l e hl n) fun v q7=>(⟨l,v,by refine O (fnLay_a hi) ?_;exact hl,q7.1.keeps fun o=>C.kp _ o,q7.2.mono (fun b o j0_=>C.kp b o) (fun j0_ z=>z) (fun j0_ z=>z) fun b o j0_=>C.kp b o⟩))
   .obtain⟨k,rfl⟩ :∃k,i=fn.na+k:=⟨i - fn.na,by exact(Nat.le_antisymm (Ln [i,fn.4,i - fn.na] (.w .x<|.a .y .z) [Gf (.a .z .y) .x] rfl<|Nat.sub_add_cancel (n:=i) (m:=fn.na)<|Ln [fn.4,i] (.w .x .y) [Gl .x .y] rfl<|Nat.not_lt.mp hi)<|Ln [fn.4,i - fn.na,i] (.w (.a .x .y) .z) [Ge (.a .y .x) .z] rfl<|Nat.sub_add_cancel (n:=i) (m:=fn.na)<|Ln [fn.4,i] (.w .x .y) [Gl .x .y] rfl<|Nat.not_lt.mp hi)⟩
    have hl:=C.SA.1;rw[C.na]at hl;have hv:k<vs.length:=by exact(Ln [k,vs.length,fn.4,args.length] (.w (.p 1 .x) .y) [Gl (.p 1<|.a .z .x) .u,Ge .u<|.a .z .y] rfl hlt hl)
    refine ex1 (C.ar k _<|List.getElem?_eq_getElem hv) fun l q5=>?_;have sv:=(C.SA.2.2 k sl vs[k] (by refine O C.na ?_;exact e) (List.getElem?_eq_getElem hv)).2;rw[C.na]at sv;exact⟨l,_,q5.1,q5.2,sv.mono (fun b o j0_=>C.kp b o) (fun j0_ z=>z) (fun j0_ z=>z) fun b o j0_=>C.kp b o⟩
  .rw[List.getElem?_replicate]at e;split at e
   .obtain rfl:=sos e;exact absurd rfl n
   .exact nos e
theorem mem_bv{i m:Nat}{pin:aw}(hp:i∈pin) :i∉(List.range m).filter fun i=>decide (i∉pin):=fun q=>by have:=(List.mem_filter.mp q).2;simp[hp]at this
theorem pinsM_a{na k:Nat}{rb:aw}(hk:k<na)(hn:k∉rb) :k∈pinsM na rb args:=by refine List.mem_append_left _<|List.mem_filter.mpr ⟨List.mem_range.mpr hk,?_⟩;simpa using hn
inductive CallBack(J:Ins)(rb:aw)(F:Addr→Prop)(ai:Addr→Option Nat)(Z:Addr→Prop)(s:Shared)(args:List Slot)(vs:ay)(outs:List Slot)(own':Addr→Option Nat)(Z':Addr→Prop)(s':Shared) :Prop
 | mk:Gh F own' Z' s'.heap→InsJ F own' Z' s'.heap J→GStep J rb F ai Z s own' Z' s'→AtsAt J own' Z' s'.heap outs→naJ J≤outs.length→OutsAt own' Z' s'.heap (naJ J) (args.drop<|naJ J) vs (outs.drop<|naJ J)→CallBack J rb F ai Z s args vs outs own' Z' s'
theorem CC.back{m:Nat}(C:CC J fn d names sn ao F ai Z s s₁ args vs)(I':Inv (fnLay J fn ao names sn F) own' Z' s'.heap fr')(S':Step (fnLay J fn ao names sn F) ((List.range m).filter fun i=>decide<|i∉pinsM fn.na fn.rb args) ai Z s₁ own' Z' s') :CallBack J fn.rb F ai Z s args vs (outsM fn.na args fr') own' Z' s':=by
 have fresh:∀b,s₁.heap.get? b=none→s.heap.get? b=none:=fun b e0=>by cases z:s.heap.get? b with
  | none=>rfl
  | some o=>have e0:=(C.kp b o z)▸e0;exact nomatch e0
 have nwr:∀b o,s.heap.get? b=some o→ ¬(ai b≠none∨dxJ J b)→ ¬(fnLay J fn ao names sn F).wr ai b:=fun b o e q w=>by
  rcases w with w | w | ⟨i,l,hl,w⟩
  .exact q (.inl w)
  .exact Nat.lt_irrefl _ (w▸C.up b o e)
  .rcases C.lg hl with g | g
   .exact Nat.lt_irrefl _ (Nat.lt_of_lt_of_le (C.up b o e)<|w▸g)
   .exact q (.inr<|w▸(locJ_some g).2)
 have la:(atsOf fr'<|List.range fn.na).length=fn.na:=by unfold atsOf;rw[List.length_map];exact O List.length_range rfl
 refine⟨⟨I'.base,I'.zb,I'.zo,I'.zF,I'.oF,I'.zlv,I'.olv,I'.flv⟩,fun x o dx hJ=>?_,⟨?_,⟨fun b o e nw nf=>S'.ext.keep b o (C.kp b o e) (nwr b o e nw) nf,fun b o e=>S'.ext.live b o<|C.kp b o e,fun b o f e=>S'.ext.fram b o f<|C.kp b o e⟩,S'.zm,fun b z=>(S'.zn b z).imp id fun z=>z.imp id<|fresh b,fun b i q=>(S'.on b i q).imp id<|fresh b,fun k l v hk hl hr=>?_⟩,fun k sl l e hl n=>?_,?_,?_⟩
 .have ia:=C.IJ x o dx hJ;have hn:J≠none:=by exact O hJ (fun q=>nos q.symm)
  have sf:=I'.sf (x,o) (by unfold fnLay;refine O hJ ?_;rfl);have h0:=Nat.pos_of_ne_zero (C.jna hn).2;refine hidG fun G g1=>?_;refine ex1 (C.locA h0) fun l hl=>?_;refine ex4 (C.att hl) fun j0_ j1_ j2_ a Q=>?_;obtain rfl:=Q.2.1;have e1:=Q.1;rw[hJ]at e1;cases e1;have hy:(fnLay J fn ao names sn F).loc 0=some (.attr dx tb.an a):=by exact O (fnLay_a h0) hl
  exact g1<|⟨sf.z,sf.ob,ia.nc,ia.dic,ia.ne,I'.zl 0 _ hy,I'.ol 0 _ hy,ia.fd,I'.ok 0 _ hy⟩
 .exact ex2 C.same fun h1 tk1 e1=>(ex2 S'.sh fun h2 tk2 e2=>(⟨h2,tk2,by exact O e2<|O e1 rfl⟩))
 .have hk':k<fn.na:=C.na▸(locJ_some hl).1;exact S'.bind k l v (mem_bv<|pinsM_a hk' hk) (by refine O (fnLay_a hk') ?_;exact hl)<|hr.keeps fun o=>C.kp _ o
 .have hk':k<fn.na:=C.na▸(locJ_some hl).1;unfold outsM at e;rw[List.getElem?_append_left (by refine O la ?_;exact hk')]at e;refine hidG fun G1 g2=>?_;obtain⟨i,U⟩:=atsOf_get e n;obtain⟨h3,h4⟩:=List.getElem?_eq_some_iff.mp U.1;rw[List.getElem_range]at h4;subst h4;obtain⟨l',v,hl',hr,sv⟩:=I'.at' _ sl U.2 n;rw[fnLay_a hk',hl]at hl';obtain rfl:=sos hl';exact g2<|⟨v,hr,sv⟩
 .unfold outsM;exact O List.length_append<|O la<|O C.na<|Nat.le_add_right _ _
 .refine O C.na ?_;unfold outsM;refine O (List.drop_append_of_le_length<|Nat.le_of_eq la.symm) ?_;refine O (List.drop_eq_nil_of_le<|Nat.le_of_eq la) ?_;rw[List.nil_append];refine outs_at fun j sl o v ej hl ev ef n=>?_;refine hidG fun G2 g3=>?_;refine ex1 (C.ar j v ev) fun l u=>?_;have ef:=(List.getElem?_drop)▸ef;obtain⟨l2,v2,hl2,hr2,sv⟩:=I'.at' (fn.na+j) o ef n;rw[u.1]at hl2;obtain rfl:=sos hl2;exact g3<|O ((S'.bind (fn.na+j) l v (mem_bv<|List.mem_append_right _<|pins_mem ej hl) u.1 u.2).det hr2) sv
end
noncomputable def resOf:aA Ctl→aA Rv
 | .error e=>.error e
 | .ok .next=>.ok<|.fz .none
 | .ok (.ret r)=>.ok r
inductive CallIs(P:Pr)(n:Nat)(f:Nat)(args:List Slot)(res:aA Rv)(outs:List Slot) :Prop
 | mk (fn:Fn) (Y:Fm) (o:aA Ctl) :P.fns[f]?=some fn→args.length=fn.np→exSs ⟨P.glob,cF P n,pinsM fn.na fn.rb args⟩ fn.body (args++List.replicate (fn.nv - fn.np) .no)=some (o,Y)→resOf o=res→outsM fn.na args Y=outs→CallIs P n f args res outs
theorem callF_is{P:Pr}{n:Nat}{f:Nat}{args:List Slot}{res:aA Rv}{outs:List Slot}(h:cF P (n+1) f args=some (res,outs)) :CallIs P n f args res outs:=by
 have h:(match P.fns[f]? with
  | none=>none
  | some fn=>if args.length=fn.np then finF fn.na args (exSs ⟨P.glob,cF P n,pinsM fn.na fn.rb args⟩ fn.body<|args++List.replicate (fn.nv - fn.np) .no) else none)=some (res,outs):=h
 cases hf:P.fns[f]? with
 | none=>have h:=hf▸h;exact nos h
 | some fn=>
  rw[hf]at h;have h:(if args.length=fn.np then finF fn.na args (exSs ⟨P.glob,cF P n,pinsM fn.na fn.rb args⟩ fn.body<|args++List.replicate (fn.nv - fn.np) .no) else none)=some (res,outs):=h;by_cases q:args.length=fn.np
  .rw[if_pos q]at h;cases e:exSs ⟨P.glob,cF P n,pinsM fn.na fn.rb args⟩ fn.body (args++List.replicate (fn.nv - fn.np) .no) with
   | none=>rw[e]at h;exact nos h
   | some p=>
    rw[e]at h;obtain⟨o,Y⟩:=p;rcases o with x | (_ | r)
    .have h:=Prod.mk.inj<|sos h;exact⟨fn,Y,_,hf,q,e,h.1,h.2⟩
    .have h:=Prod.mk.inj<|sos h;exact⟨fn,Y,_,hf,q,e,h.1,h.2⟩
    .have h:=Prod.mk.inj<|sos h;exact⟨fn,Y,_,hf,q,e,h.1,h.2⟩
  .rw[if_neg q]at h;exact nos h
section
variable {A:Around}{J:Ins}{f m:Nat}{fn:Fn}{d:DefRec}{ao:Env}{names:ax}{sn:Str}{F:Addr→Prop}{ai:Addr→Option Nat}{Z:Addr→Prop}{s s₁ s':Shared}{args:List Slot}{vs:ay}{fr':Fm}{fa:Addr}{qual:Str}{pm code doc:Value}{o:aA Ctl}
theorem naJ_fn(ok:FOk f d fn names sn)(hJ:J=none↔f<tb.m0) :naJ J=fn.na:=by
 refine O ok.na ?_;rcases J with _ | j
 .exact(if_pos<|hJ.mp rfl).symm
 .exact(if_neg fun q=>nos (hJ.mpr q).symm).symm
theorem self_len(hna:naJ J=fn.na) :(selfN fn sn).length=(selfV J).length:=by
 unfold selfN;rcases J with _ | j
 .refine O (if_pos (show fn.na=0 from hna.symm)) ?_;rfl
 .refine O (if_neg (show ¬fn.na=0 from fun q=>an_ne<|hna.trans q)) ?_;rfl
noncomputable abbrev bnd2(J:Ins)(fn:Fn)(names:ax)(sn:Str)(vs:ay) :List (Str×Value):=(selfN fn sn++names.take (fn.np - fn.na)).zip<|selfV J++vs
theorem take_len(ok:FOk f d fn names sn)(hvl:fn.na+vs.length=fn.np) :(names.take<|fn.np - fn.na).length=vs.length:=by have hnp:=ok.np;rw[← hvl]at hnp ⊢;rw[Nat.add_sub_cancel_left];exact O List.length_take<|Nat.min_eq_left<|Nat.le_of_add_le_add_left hnp
theorem bnd_names(ok:FOk f d fn names sn)(hna:naJ J=fn.na)(hvl:fn.na+vs.length=fn.np) :(bnd2 J fn names sn vs).map (·.1)=selfN fn sn++names.take (fn.np - fn.na):=
 List.map_fst_zip (by refine O List.length_append<|O List.length_append<|O (self_len hna)<|O (take_len ok hvl) ?_;exact Nat.le_refl _)
theorem cells_has{n:Nat}{x:Str}(q:d.scope.names.lookup x=some .cell) :∃c,(cellsFrom n d.scope.names []).lookup x=some c:=by refine ex1 (cellsFrom_mem d.scope.names n [] x<|mem_of_lookup q) fun c hc=>?_;exact ex1 (lookup_of_mem hc) fun c' Q=>(⟨c',Q.1⟩)
theorem bnd_kinds{n:Nat}(ok:FOk f d fn names sn)(hna:naJ J=fn.na)(hvl:fn.na+vs.length=fn.np)(x:Str×Value)(hx:x∈bnd2 J fn names sn vs) :d.scope.names.lookup x.1=some .local∨(d.scope.names.lookup x.1=some .cell∧((cellsFrom n d.scope.names []).lookup x.1).isSome=true):=by
 have hxn:x.1∈selfN fn sn++names.take (fn.np - fn.na):=by exact O (bnd_names ok hna hvl).symm<|List.mem_map.mpr ⟨x,hx,rfl⟩
 rcases List.mem_append.mp hxn with hxn | hxn
 .exact .inl (ok.skind _ hxn)
 rcases ok.kinds x.1 (List.mem_of_mem_take hxn) with q | q
 .exact .inl q
 .exact .inr ⟨q,Option.isSome_iff_exists.mpr<|cells_has q⟩
theorem CC.of(ok:FOk f d fn names sn)(hna:naJ J=fn.na)(hvl:fn.na+vs.length=fn.np)(G:Gh F ai Z s.heap)(IJ:InsJ F ai Z s.heap J)(SA:SlotsAt J ai Z s.heap args vs)(hL:ao.locals=s.heap.objs.size)(hK:∀x,ao.kindOf x=d.scope.names.lookup x)(hC:ao.cells=cellsFrom (s.heap.objs.size+1) d.scope.names [])
  (IC:InCallC s ao.locals (bindL ao.kindOf (bnd2 J fn names sn vs) fun j0_=>none) ao.cells (bindC ao.kindOf (bnd2 J fn names sn vs) fun j0_=>none) s₁) :CC J fn d names sn ao F ai Z s s₁ args vs:=by
 have cx:∀x,ao.kindOf x=some .cell→ ∃c,ao.cells.lookup x=some c:=fun x q=>by refine O hC ?_;rw[hK]at q;exact cells_has q
 have kinds:∀x∈names,ao.kindOf x=some .local∨ao.kindOf x=some .cell:=fun x hx=>by rw[hK];exact ok.kinds x hx
 have skind:∀x∈selfN fn sn,ao.kindOf x=some .local:=fun x hx=>by rw[hK];exact ok.skind x hx
 have nb:((bnd2 J fn names sn vs).map (·.1)).Nodup:=by exact O (bnd_names (J:=J) ok hna hvl)<|((List.perm_append_comm (l₁:=selfN fn sn) (l₂:=names)).nodup_iff.mpr ok.nd).sublist<|List.Sublist.append (List.Sublist.refl _)<|List.take_sublist _ _
 refine⟨hna,ok.nd,kinds,skind,hK,fun b o e=>by refine O hL ?_;exact Heap.lt_size e,IC.toInCall.keep,IC.toInCall.same,⟨_,IC.toInCall.ns⟩,fun x c hc=>⟨IC.above _ _<|mem_of_lookup hc,_,IC.cell _ _ hc⟩,fun x z c h1 h2=>name_of_addr IC.apart (mem_of_lookup h1)<|mem_of_lookup h2,cx,fun k v hv=>?_,fun x o dx hJ=>?_,G,IJ,SA⟩
 .have hkv:=(List.getElem?_eq_some_iff.mp hv).1;have hin':=(take_len ok hvl).symm▸hkv;have hin:=Nat.lt_of_lt_of_le hin'<|List.length_take_le' _ _;have hx':(names++selfN fn sn)[k]?=some names[k]:=by exact O (List.getElem?_append_left hin) (List.getElem?_eq_getElem hin)
  have hz:(bnd2 J fn names sn vs)[(selfN fn sn).length+k]?=some (names[k],v):=by
   refine List.getElem?_zip_eq_some.mpr ⟨?_,?_⟩
   .refine O (List.getElem?_append_right<|Nat.le_add_right _ _) ?_;rw[Nat.add_sub_cancel_left];exact O (List.getElem?_eq_getElem hin')<|O List.getElem_take rfl
   .refine O (self_len hna) ?_;rw[List.getElem?_append_right<|Nat.le_add_right _ _,Nat.add_sub_cancel_left];exact hv
  rcases kinds names[k] (List.getElem_mem hin) with q | q
  .exact⟨_,fnLay_l hx' q,_,IC.toInCall.ns,bindL_get _ _ _ _ v nb hz q⟩
  .refine ex1 (cx _ q) fun c hc=>?_;have:=IC.cell _ c hc;rw[bindC_get _ _ _ _ v nb hz (by refine O q ?_;intro z;cases z)]at this;exact⟨_,fnLay_c hx' q hc,this⟩
 .have e:selfN fn sn=[sn]:=selfN_some (fun q=>by rw[hJ]at hna;exact an_ne<|hna.trans q);refine⟨_,IC.toInCall.ns,bindL_get _ _ 0 _ _ nb ?_<|skind sn (by refine O e ?_;exact .head _)⟩;unfold bnd2;refine O e<|O hJ ?_;rfl
theorem CC.fnok{c:Cfg}(C:CC J fn d names sn ao F ai Z s s₁ args vs)(en:EnvOk A (scOf kk d fn names sn) ao (fnLay J fn ao names sn F))(hc:c.pin=pinsM fn.na fn.rb args)(hi:interactive ao=false) :FnOk A (scOf kk d fn names sn) ao (fnLay J fn ao names sn F) c ((List.range<|fn.na+(names++selfN fn sn).length).filter fun i=>decide<|i∉pinsM fn.na fn.rb args) ai:=by
 refine⟨en,fun x i hx=>?_,fun i hp hlt=>List.mem_filter.mpr ⟨List.mem_range.mpr hlt,decide_eq_true<|hc▸hp⟩,hi,C.kd,rfl,fun j z hz=>?_,fun q=>?_⟩
 .have Q:=zipIdx_lookup hx;rcases C.kinds x (List.mem_of_getElem? Q.2) with q | q <;> (refine O q ?_;intro z;cases z)
 .by_cases hJ:J=none
  .refine .inl ?_;have h0:fn.na=0:=by have:=C.na;rw[hJ]at this;exact this.symm
   refine zipIdx_has ?_;cases fnLay_loc hz with
   | att q e=>have q:=h0▸q;cases q
   | loc _ hx=>have:=List.mem_of_getElem? hx;rw[show selfN fn sn=[] from if_pos h0,List.append_nil]at this;exact this
  .exact .inr fun q=>hJ<|C.no.mp q
 .unfold fnLay;refine O (C.no.mp q) ?_;rfl
theorem CC.old(C:CC J fn d names sn ao F ai Z s s₁ args vs)(b:Addr)(e:s₁.heap.get? b=none) :s.heap.get? b=none:=by cases z:s.heap.get? b with
 | none=>rfl
 | some o=>rw[C.kp b o z]at e;exact nos e.symm
theorem unown{y:Lay}{ai:Addr→Option Nat}{b:Addr}(nw:¬y.wr ai b) :ai b=none:=by cases q:ai b with
 | none=>rfl
 | some z=>exact absurd (.inl (by refine O q ?_;exact fun z=>nos z.symm)) nw
noncomputable def retV:Flow→Value
 | .ret v=>v
 | _=>.none
theorem CC.ret{fl:Flow}(C:CC J fn d names sn ao F ai Z s s₁ args vs)(hrb:fn.rb=rbF f)(p:PostS (fnLay J fn ao names sn F) ((List.range m).filter fun i=>decide<|i∉pinsM fn.na fn.rb args) s₁ ai Z s₁ (o,fr') fl s') :
  CallPost J (rbF f) F ai Z s args vs (resOf o) (outsM fn.na args fr') (.ok<|.ret<|retV fl) s':=by
 refine hidG fun G1 g1=>?_;obtain⟨k,own',Z',q,I',S',r⟩:=p;obtain⟨k1,k2,k3,k4,k5,k6⟩:=C.back I' S';refine g1 ?_;refine⟨own',Z',k1,k2,hrb▸k3,k4,k5,k6,.inl ?_⟩;subst q;cases k with
 | next=>cases r;exact⟨_,_,rfl,rfl,.none⟩
 | ret rv=>obtain⟨v,rfl,r,dd,hdd⟩:=r;refine⟨_,v,rfl,rfl,?_⟩;cases rv with
  | fz d=>exact r
  | ai d=>exact ex1 r fun b r=>(⟨b,r.1,C.old b r.2.1,unown r.2.2.1,r.2.2.2.1,r.2.2.2.2.1,r.2.2.2.2.2⟩)
  | pl p=>exact nos hdd
theorem CC.exc{e:Value}(C:CC J fn d names sn ao F ai Z s s₁ args vs)(hrb:fn.rb=rbF f)(en:EnvOk A (scOf kk d fn names sn) ao (fnLay J fn ao names sn F))(p:PostX (fnLay J fn ao names sn F) ((List.range m).filter fun i=>decide<|i∉pinsM fn.na fn.rb args) ai Z s₁ (o,fr') e s') :
  wpAny (model prog w) A (leaving ao e) (fun j0_ s''=>CallPost J (rbF f) F ai Z s args vs (resOf o) (outsM fn.na args fr') (.error e) s'') (fun e' s''=>CallPost J (rbF f) F ai Z s args vs (resOf o) (outsM fn.na args fr') (.error e') s'') s':=by
 refine hidG fun G1 g1=>?_;obtain⟨nm,a,own',Z',q,rfl,I',S',ag⟩:=p;refine ex2 en.top fun e0 outer Q=>?_;obtain⟨l,hl',z⟩:=frames_fun I' en.stk;rw[Q.1]at hl';obtain rfl:=sos hl';subst q;refine g1 ?_;unfold leaving;refine wpAny_bind<|leave_exc Q.1 Q.2 z.1 en.frame ag (fun b e=>⟨S'.old b e,I'.fresh e⟩) fun h₂ lv X₂=>?_;refine hidG fun G2 g2=>?_;obtain⟨k1,k2,k3,k4,k5,k6⟩:=C.back (s':= {s' with heap:=h₂}) (I'.lv lv (fun b p=>p.2) z.2)<|S'.lv I' lv (fun b p=>p) z.2;exact g2 ⟨own',Z',k1,k2,hrb▸k3,k4,k5,k6,.inr ⟨_,a,rfl,rfl,X₂.is.mono fun b j0_ j1_ h=>⟨C.old b h.1,unown h.2.1,h.2.2.1,h.2.2.2⟩⟩⟩
end
theorem call_sound{P:Pr}(gd:Gd P.glob)(fok:∀(f:Nat)(fn:Fn)(d:DefRec),P.fns[f]?=some fn→tb.fn[f]?=some d→ ∃names sn,FOk f d fn names sn) :
  ∀n,CallSpec n (cF P n):=by
 intro n;induction n with
 | zero=>intro f args res outs h;exact nos h
 | succ n IH=>
  intro f args res outs h d hd' J fa hfa A F ai Z s vs hdep hun hhd fro G IJ SA;refine hidG fun G1 g1=>?_;obtain⟨fn,fr',o,hfn,hlen,hex,rfl,rfl⟩:=callF_is h;refine ex2 (fok f fn d hfn hd') fun names sn ok=>?_;obtain⟨hJf,hK,ob,qual,pm,code,doc,ho,hdat,hcr⟩:=hfa;refine g1 ?_;have hna:=naJ_fn ok hJf;have hvl:fn.na+vs.length=fn.np:=by exact O hlen.symm<|O SA.1<|O hna rfl
  refine codeAny_call_cells (fd:=methDef d.name qual d.params d.body d.scope pm code doc) (body:=d.body) (by show A.depth<1000;omega) (G.base fa ob ho) hdat (gd.nl.keeps G.base) (hcr.keeps G.base) rfl (ok.bind J vs hna hvl qual pm code doc) rfl (bnd_kinds ok hna hvl) (fun s₁ IC=>?_) ok.co ok.gen ok.kind;have C:=CC.of (ao:=callEnvC (methDef d.name qual d.params d.body d.scope pm code doc) s.heap.objs.size fa) ok hna hvl G IJ SA rfl (fun j0_=>rfl) rfl IC;have R':Rn (A.deeper<|callEnvC (methDef d.name qual d.params d.body d.scope pm code doc) s.heap.objs.size fa) ⟨P.glob,cF P n,pinsM fn.na fn.rb args⟩ n:=⟨gd,IH,by show A.depth+1+2*n+1≤999;omega,by show A.units+3+8*n+4≤4000;omega,hhd⟩
  have hi:interactive (callEnvC (methDef d.name qual d.params d.body d.scope pm code doc) s.heap.objs.size fa)=false:=by unfold interactive;show(d.scope.kind == .module&&_)=false;refine O ok.kind ?_;rfl
  exact wpAny_mono (ss_all (Z₀:=Z) (s₀:=s₁) ok.body _ _ _ _ R' (C.fnok (C.en hK fro ok.kind rfl rfl rfl) rfl hi) ai Z s₁ _ (o,fr') hex (C.inv<|fn.nv - fn.np) .refl) (fun fl s' p=>C.ret ok.rb p) fun e s' p=>C.exc ok.rb (C.en hK fro ok.kind rfl rfl rfl) p
end Mv
end
section
set_option backward.match.sparseCases false
namespace Mv
open PySem PyProof.Rows
noncomputable def isGB(V:Sc)(x:Str) :Bool:=decide (V.names.lookup x=some .globalImplicit) && !(x == ("__debug__" :Str))
noncomputable def isVB(V:Sc)(x:Str)(i:Nat) :Bool:=decide (V.vars.lookup x=some i) && !(x == ("__debug__" :Str))
theorem isGB_ok{V:Sc}{x:Str}(h:isGB V x=true) :V.isG x:=by simp only[isGB,Bool.and_eq_true,decide_eq_true_eq,Bool.not_eq_true']at h;exact h
theorem isVB_ok{V:Sc}{x:Str}{i:Nat}(h:isVB V x i=true) :V.isV x i:=by simp only[isVB,Bool.and_eq_true,decide_eq_true_eq,Bool.not_eq_true']at h;exact h
noncomputable def constB:Const→D→Bool
 | .none,.none=>true
 | .bool a,.bool b=>a==b
 | .int a,.int b=>a==b
 | .str a,.str b=>decide (a=b)&&PyData.strOk a&&decide (a.cps.size≤Sz)
 | _,_=>false
theorem constB_ok{k:Const}{d:D}(h:constB k d=true) :ConstIs k d:=by
 cases k <;> first | exact Bool.noConfusion h | (cases d <;> first | exact Bool.noConfusion h | exact .none | (refine O (eq_of_beq h) ?_;first | exact .bool _ | exact .int _) | skip)
 exact O (of_decide_eq_true (Bool.and_eq_true_iff.mp (Bool.and_eq_true_iff.mp h).1).1).symm<|.str _ (Bool.and_eq_true_iff.mp (Bool.and_eq_true_iff.mp h).1).2<|of_decide_eq_true (Bool.and_eq_true_iff.mp h).2
noncomputable def apartB(x:Ex)(bv:aw) :Bool:=(plX x).all fun i=>!bv.contains i
theorem apartB_ok{x:Ex}{bv:aw}(h:apartB x bv=true) :Apart x bv:=fun i hi hb=>by simp only[apartB,List.all_eq_true]at h;have:=h i hi;simp[hb]at this
noncomputable def compB_(scope:Scope)(V:Sc)(vs:ax) :Bool:=
 decide (scope.kind = .function)&&(scope.names.all fun x=>decide<|x.2 = .local→scope.names.lookup x.1=some .local)&&(scope.names.all fun x=>decide<|x.2≠ .cell)&&(vs.all fun v=>decide<|scope.names.lookup v=some .local)&&decide vs.Nodup &&
 (scope.names.all fun x=>decide (x.2=.free→scope.names.lookup x.1=some .free∧(x.1 == ("__classdict__" :Str))=false∧(V.vars.lookup x.1).isSome=true∧(V.names.lookup x.1=some .cell∨V.names.lookup x.1=some .free))) &&
 decide (((scope.names.filter fun x=>x.2 == .free).map (·.1)).Nodup)
theorem compB__ok{scope:Scope}{V:Sc}{vs:ax}(h:compB_ scope V vs=true) :CompOk scope V vs:=by simp only[compB_,Bool.and_eq_true,decide_eq_true_eq,List.all_eq_true]at h;refine hidG fun G g=>?_;obtain⟨⟨⟨⟨⟨⟨h1,h2⟩,h3⟩,h4⟩,h4'⟩,h5⟩,h6⟩:=h;refine g ?_;exact⟨h1,h2,h3,h4,h4',fun x hx hf=>let ⟨a,b,c,d⟩:=h5 x hx hf;⟨a,b,Option.isSome_iff_exists.mp c,d⟩,h6⟩
structure Ck(p:Prop) where
 val:Bool
 ok:val=true→p
namespace Ck
variable {p q:Prop}
noncomputable def no:Ck p:=⟨false,fun h=>nomatch h⟩
noncomputable def dec(p:Prop)[Decidable p] :Ck p:=⟨decide p,of_decide_eq_true⟩
noncomputable def ofB{b:Bool}(h:b=true→p) :Ck p:=⟨b,h⟩
theorem and_ok{a b:Bool}(h:(a&&b)=true) :a=true∧b=true:=by cases a <;> cases b <;> first | exact⟨rfl,rfl⟩ | cases h
noncomputable def and(a:Ck p)(b:Ck q) :Ck (p∧q):=⟨a.val&&b.val,fun h=>⟨a.ok (and_ok h).1,b.ok (and_ok h).2⟩⟩
noncomputable def map(a:Ck p)(f:p→q) :Ck q:=⟨a.val,fun h=>f<|a.ok h⟩
noncomputable def or(a b:Ck p) :Ck p:=⟨a.val||b.val,fun h=>(Bool.or_eq_true_iff.mp h).elim a.ok b.ok⟩
end Ck
noncomputable def vw(p:Expr→Prop)(e:Expr)(nm:∀v a,Ck (p<|.Name v a):=fun j0_ j1_=>.no)(con:∀v a b,Ck (p<|.Constant v a b):=fun j0_ j1_ j2_=>.no)(att:∀o a b,Ck (p<|.Attribute o a b):=fun j0_ j1_ j2_=>.no)(cal:∀g as pos,Ck (p<|.Call g as [] pos):=fun j0_ j1_ j2_=>.no)(tup:∀es a b,Ck (p<|.Tuple es a b):=fun j0_ j1_ j2_=>.no)(lis:∀es a,Ck (p<|.List es a):=fun j0_ j1_=>.no)(bin:∀l o r a,Ck (p<|.BinOp l o r a):=fun j0_ j1_ j2_ j3_=>.no)(un:∀o l a,Ck (p<|.UnaryOp o l a):=fun j0_ j1_ j2_=>.no)(cmp:∀l os es a,Ck (p<|.Compare l os es a):=fun j0_ j1_ j2_ j3_=>.no)(boo:∀o l a,Ck (p<|.BoolOp o l a):=fun j0_ j1_ j2_=>.no)(sub:∀l i a,Ck (p<|.Subscript l i a):=fun j0_ j1_ j2_=>.no)(dic:∀l i a,Ck (p<|.Dict l i a):=fun j0_ j1_ j2_=>.no)(ife:∀c l r a,Ck (p<|.IfExp c l r a):=fun j0_ j1_ j2_ j3_=>.no) :Ck (p e):=match e with
 | .Name v a=>nm v a
 | .Constant v a b=>con v a b
 | .Attribute o a b=>att o a b
 | .Call g as [] pos=>cal g as pos
 | .Tuple es a b=>tup es a b
 | .List es a=>lis es a
 | .BinOp l o r a=>bin l o r a
 | .UnaryOp o l a=>un o l a
 | .Compare l os es a=>cmp l os es a
 | .BoolOp o l a=>boo o l a
 | .Subscript l i a=>sub l i a
 | .Dict l i a=>dic l i a
 | .IfExp c l r a=>ife c l r a
 | _=>.no
section
variable (p:Expr→Prop)(e:Expr)
noncomputable def nName(k:∀v a,Ck<|p<|.Name v a) :Ck (p e):=vw p e (nm:=k)
noncomputable def nConstant(k:∀v a b,Ck<|p<|.Constant v a b) :Ck (p e):=vw p e (con:=k)
noncomputable def nAttribute(k:∀o a b,Ck<|p<|.Attribute o a b) :Ck (p e):=vw p e (att:=k)
noncomputable def nCall(k:∀g as pos,Ck<|p<|.Call g as [] pos) :Ck (p e):=vw p e (cal:=k)
noncomputable def nTuple(k:∀es a b,Ck<|p<|.Tuple es a b) :Ck (p e):=vw p e (tup:=k)
noncomputable def nList(k:∀es a,Ck<|p<|.List es a) :Ck (p e):=vw p e (lis:=k)
noncomputable def nBinOp(k:∀l o r a,Ck<|p<|.BinOp l o r a) :Ck (p e):=vw p e (bin:=k)
noncomputable def nUnaryOp(k:∀o l a,Ck<|p<|.UnaryOp o l a) :Ck (p e):=vw p e (un:=k)
noncomputable def nCompare(k:∀l os es a,Ck<|p<|.Compare l os es a) :Ck (p e):=vw p e (cmp:=k)
noncomputable def nBoolOp(k:∀o l a,Ck<|p<|.BoolOp o l a) :Ck (p e):=vw p e (boo:=k)
noncomputable def nSubscript(k:∀l i a,Ck<|p<|.Subscript l i a) :Ck (p e):=vw p e (sub:=k)
noncomputable def nDict(k:∀l i a,Ck<|p<|.Dict l i a) :Ck (p e):=vw p e (dic:=k)
noncomputable def nIfExp(k:∀c l r a,Ck<|p<|.IfExp c l r a) :Ck (p e):=vw p e (ife:=k)
end
noncomputable def n0{α:Type}(p:List α→Prop)(l:List α)(k:Ck (p [])) :Ck (p l):=match l with | []=>k | _=>.no
noncomputable def n1{α:Type}(p:List α→Prop)(l:List α)(k:∀a,Ck<|p [a]) :Ck (p l):=match l with | [a]=>k a | _=>.no
noncomputable def n2{α:Type}(p:List α→Prop)(l:List α)(k:∀a b,Ck<|p [a,b]) :Ck (p l):=match l with | [a,b]=>k a b | _=>.no
noncomputable def n3{α:Type}(p:List α→Prop)(l:List α)(k:∀a b c,Ck<|p [a,b,c]) :Ck (p l):=match l with | [a,b,c]=>k a b c | _=>.no
noncomputable def vs(q:Stmt→Prop)(s:Stmt)(asg:∀t v a,Ck (q<|.Assign [t] v a):=fun j0_ j1_ j2_=>.no)(exp:∀v a,Ck (q<|.Expr v a):=fun j0_ j1_=>.no)(iff:∀c l r a,Ck (q<|.If c l r a):=fun j0_ j1_ j2_ j3_=>.no)(ret:∀v a,Ck (q<|.Return (some v) a):=fun j0_ j1_=>.no)(fo:∀g i l a,Ck (q<|.For g i l [] a):=fun j0_ j1_ j2_ j3_=>.no)(wh:∀c l a,Ck (q<|.While c l [] a):=fun j0_ j1_ j2_=>.no)(rai:∀v a,Ck (q<|.Raise (some v) none a):=fun j0_ j1_=>.no)(tr:∀l hs a,Ck (q<|.Try l hs [] [] a):=fun j0_ j1_ j2_=>.no) :Ck (q s):=match s with
 | .Assign [t] v a=>asg t v a
 | .Expr v a=>exp v a
 | .If c l r a=>iff c l r a
 | .Return (some v) a=>ret v a
 | .For g i l [] a=>fo g i l a
 | .While c l [] a=>wh c l a
 | .Raise (some v) none a=>rai v a
 | .Try l hs [] [] a=>tr l hs a
 | _=>.no
section
variable (q:Stmt→Prop)(s:Stmt)
noncomputable def nAsg(k:∀t v a,Ck<|q<|.Assign [t] v a) :Ck (q s):=vs q s (asg:=k)
noncomputable def nExp(k:∀v a,Ck<|q<|.Expr v a) :Ck (q s):=vs q s (exp:=k)
noncomputable def nIf(k:∀c l r a,Ck<|q<|.If c l r a) :Ck (q s):=vs q s (iff:=k)
noncomputable def nRet(k:∀v a,Ck<|q<|.Return (some v) a) :Ck (q s):=vs q s (ret:=k)
noncomputable def nFor(k:∀g i l a,Ck<|q<|.For g i l [] a) :Ck (q s):=vs q s (fo:=k)
noncomputable def nWhl(k:∀c l a,Ck<|q<|.While c l [] a) :Ck (q s):=vs q s (wh:=k)
noncomputable def nRai(k:∀v a,Ck<|q<|.Raise (some v) none a) :Ck (q s):=vs q s (rai:=k)
noncomputable def nTry(k:∀l hs a,Ck<|q<|.Try l hs [] [] a) :Ck (q s):=vs q s (tr:=k)
end
section
variable {V:Sc}{x:Ex}(e:Expr)
noncomputable def iAtN(k:∀v p a b,Ck<|CE V (.Attribute (.Name v p) a b) x) :Ck (CE V e x):=nAttribute (fun e=>CE V e x) e fun o a b=>nName (fun o=>CE V (.Attribute o a b) x) o fun v p=>k v p a b
noncomputable def iCalN(k:∀v p as pos,Ck<|CE V (.Call (.Name v p) as [] pos) x) :Ck (CE V e x):=nCall (fun e=>CE V e x) e fun g as pos=>nName (fun g=>CE V (.Call g as [] pos) x) g fun v p=>k v p as pos
noncomputable def iCalA(k:∀o m ap as pos,Ck<|CE V (.Call (.Attribute o m ap) as [] pos) x) :Ck (CE V e x):=nCall (fun e=>CE V e x) e fun g as pos=>nAttribute (fun g=>CE V (.Call g as [] pos) x) g fun o m ap=>k o m ap as pos
end
noncomputable def ckV(V:Sc)(x:Str)(i:Nat) :Ck (V.isV x i):=.ofB isVB_ok
noncomputable def ckG(V:Sc)(x:Str) :Ck (V.isG x):=.ofB isGB_ok
noncomputable def ckA(x:Ex)(bv:aw) :Ck (Apart x bv):=.ofB apartB_ok
noncomputable def ckN(x:Ex)(conds:List Ex)(l:aw) :Ck (∀j∈l,j∉bvE x∧j∉bvEs conds):=.dec _
structure CGR(g:Expr)(t:Tgt) where
 vs:ax
 i:Nat
 ck:Ck (CG i g vs t)
noncomputable def ckCG(g:Expr)(t:Tgt) :CGR g t:=match t with
 | .one i=>(match g with
  | .Name v _=>⟨[v],i,⟨true,fun j0_=>.one⟩⟩
  | _=>⟨[],0,.no⟩)
 | .tup [i,j]=>(match g with
  | .Tuple [.Name a _,.Name b _] _ _=>⟨[a,b],i,(Ck.dec<|j=i+1).map fun h=>h▸ .two⟩
  | _=>⟨[],0,.no⟩)
 | _=>⟨[],0,.no⟩
section
variable {V:Sc}
theorem k_op2{a b:Expr}{op:Operator}{pos:Pos}{o:Op2}{x y:Ex}(h:op=opOf o∧CE V a x∧CE V b y∧Apart x (bvE y)) :CE V (.BinOp a op b pos) (.op2 o x y):=by refine O h.1 ?_;exact .op2 h.2.1 h.2.2.1 h.2.2.2
theorem k_cmp{a b:Expr}{op:CmpOp}{pos:Pos}{o:Cm}{x y:Ex}(h:op=cmOp o∧CE V a x∧CE V b y∧Apart x (bvE y)) :CE V (.Compare a [op] [b] pos) (.cmp o x y):=by refine O h.1 ?_;exact .cmp h.2.1 h.2.2.1 h.2.2.2
theorem k_cmp2{a b e:Expr}{op op':CmpOp}{pos:Pos}{o p:Cm}{x y z:Ex}(h:(op=cmOp o∧op'=cmOp p)∧CE V a x∧CE V b y∧CE V e z) :CE V (.Compare a [op,op'] [b,e] pos) (.cmp2 o p x y z):=by obtain⟨⟨rfl,rfl⟩,a,b,c⟩:=h;exact .cmp2 a b c
theorem k_bo{j:Bool}{o:BoolOp}{es:az}{pos:Pos}{M:List Ex}(h:o=bOp j∧CEs V es M) :CE V (.BoolOp o es pos) (.bo j M):=by refine O h.1 ?_;exact .bo h.2
noncomputable def fnIs(f:Nat)(v:Str) :Bool:=match tb.fn[f]? with
 | some d=>decide<|d.name=v
 | none=>false
theorem fnIs_ok{f:Nat}{v:Str}(h:fnIs f v=true) :∃d,tb.fn[f]?=some d∧d.name=v:=by unfold fnIs at h;cases q:tb.fn[f]? with
 | none=>have h:=q▸h;cases h
 | some d=>rw[q]at h;exact⟨d,rfl,of_decide_eq_true h⟩
theorem k_call{f:Nat}{v:Str}{p pos:Pos}{args:az}{M:List Ex}(h:(∃d,tb.fn[f]?=some d∧d.name=v)∧V.isG v∧CEs V args M∧args.length≤29∧f<tb.m0) :CE V (.Call (.Name v p) args [] pos) (.call f M):=by obtain⟨⟨d,hd,rfl⟩,a,b,c,e⟩:=h;exact .call ⟨hd,e⟩ a b c
theorem k_bi1{b:Bi}{v:Str}{p pos:Pos}{a:Expr}{x:Ex}(h:b.one=true∧v=biName b∧V.isG v∧CE V a x) :CE V (.Call (.Name v p) [a] [] pos) (.bi b [x]):=by obtain rfl:=h.2.1;exact .bi1 h.1 h.2.2.1 h.2.2.2
theorem k_isi{t:Ty}{v u:Str}{p p' pos:Pos}{a:Expr}{x:Ex}(h:v=("isinstance" :Str)∧u=(tyName t:Str)∧V.isG v∧V.isG u∧CE V a x) :CE V (.Call (.Name v p) [a,.Name u p'] [] pos) (.bi (.isi t) [x]):=by obtain rfl:=h.1;obtain rfl:=h.2.1;exact .isi h.2.2.1 h.2.2.2.1 h.2.2.2.2
theorem k_count{m:Str}{apos pos:Pos}{a k:Expr}(h:m=("count" :Str)∧baseB a=true∧baseB k=true∧(apos.endLine == pos.line)=true) :BX V (.Call (.Attribute a m apos) [k] [] pos) .count [a,k]:=by refine O h.1 ?_;exact .count h.2.1 h.2.2.1 h.2.2.2
theorem k_dzip{v u:Str}{p p' pos pos':Pos}{a b:Expr}(h:(v=("dict" :Str)∧u=("zip" :Str))∧V.isG v∧V.isG u) :BX V (.Call (.Name v p) [.Call (.Name u p') [a,b] [] pos'] [] pos) .dzip [a,b]:=by obtain⟨⟨rfl,rfl⟩,a,b⟩:=h;exact .dzip a b
noncomputable def ckAt(V:Sc)(x a:Str)(i:Nat) :Ck (V.isA x a i):=(Ck.dec (x=V.sn∧V.ats.lookup a=some i∧a∈(tb.cr V.k).elim [] (·.statics)∧(x == ("__debug__" :Str))=false)).map fun h=>⟨h.1,h.2.1,h.2.2.1,h.2.2.2⟩
noncomputable def ckPE(V:Sc)(o:Expr)(i:Nat) :Ck (PE V o i):=.or (nName (fun o=>PE V o i) o fun x j0_=>(ckV V x i).map .nm)<|nAttribute (fun o=>PE V o i) o fun o a b=>nName (fun o=>PE V (.Attribute o a b) i) o fun x j0_=>(ckAt V x a i).map .atr
noncomputable def ckKS:(kes:List (Option Expr))→(ks:ax)→Ck (KS kes ks)
 | [],[]=>⟨true,fun j0_=>.nil⟩
 | some e::es,k'::ks=>nConstant (fun e=>KS (some e::es) (k'::ks)) e fun c a b=>(match c with
  | .str k=>((Ck.dec<|k=k').and<|ckKS es ks).map fun h=>h.1▸ .cons h.2
  | _=>.no)
 | _,_=>.no
theorem k_mcall{f:Nat}{v x:Str}{as:aw}{p ap pos:Pos}{args:az}{M:List Ex}(h:(∃d,tb.fn[f]?=some d∧d.name=v)∧(as=V.as∧(tb.m0≤f∧kf f=V.k∧tb.rb[f-tb.m0]?=some [])∧x=V.sn∧(x == ("__debug__" :Str))=false∧V.ats.isEmpty=false∧(ap.endLine == pos.line)=true∧args.length≤28)∧CEs V args M) :CE V (.Call (.Attribute (.Name x p) v ap) args [] pos) (.mcall f as M):=by obtain⟨⟨d,hd,rfl⟩,⟨rfl,h1,h3,h4,h5,h6,h7⟩,h8⟩:=h;exact .mcall ⟨hd,h1⟩ ⟨h3,h4,fun q=>by rw[q]at h5;exact Bool.noConfusion h5⟩ h6 h8 h7
theorem k_zip{v:Str}{p pos:Pos}{a b:Expr}{x z:Ex}(h:v=("zip" :Str)∧V.isG v∧CE V a x∧CE V b z∧Apart x (bvE z)) :IT V (.Call (.Name v p) [a,b] [] pos) .zip [x,z]:=by obtain rfl:=h.1;exact .zip h.2.1 h.2.2.1 h.2.2.2.1 h.2.2.2.2
theorem k_enum{v:Str}{p pos:Pos}{e:Expr}{x:Ex}(h:v=("enumerate" :Str)∧V.isG v∧CE V e x) :IT V (.Call (.Name v p) [e] [] pos) .enum [x]:=by obtain rfl:=h.1;exact .enum h.2.1 h.2.2
theorem k_tin{op:CmpOp}{s a x:Str}{p ap px pos:Pos}{i j:Nat}(h:op = .NotIn∧V.isV x j∧V.isA s a i) :CE V (.Compare (.Name x px) [op] [.Attribute (.Name s p) a ap] pos) (.tin i<|.var j):=by obtain rfl:=h.1;exact .tin h.2.1 h.2.2
theorem k_rev{v:Str}{p pos:Pos}{e:Expr}{x:Ex}(h:v=("reversed" :Str)∧V.isG v∧CE V e x) :IT V (.Call (.Name v p) [e] [] pos) .rev [x]:=by obtain rfl:=h.1;exact .rev h.2.1 h.2.2
theorem k_range3{v:Str}{p pos:Pos}{a b e:Expr}{x y z:Ex}(h:(v=("range" :Str)∧Ex.noPl x=true∧Ex.noPl y=true)∧V.isG v∧CE V a x∧CE V b y∧CE V e z) :IT V (.Call (.Name v p) [a,b,e] [] pos) .range3 [x,y,z]:=by obtain⟨⟨rfl,q⟩,g,a,b,c⟩:=h;exact .range3 g a b c q
theorem k_pop{m:Str}{o:Expr}{ap pos:Pos}{i:Nat}(h:(m=("pop" :Str)∧(ap.endLine == pos.line)=true)∧PE V o i) :CE V (.Call (.Attribute o m ap) [] [] pos) (.pop (.var i)):=by obtain⟨⟨rfl,e⟩,a⟩:=h;exact .pop a e
theorem k_range{v:Str}{p pos:Pos}{e:Expr}{x:Ex}(h:v=("range" :Str)∧V.isG v∧CE V e x) :IT V (.Call (.Name v p) [e] [] pos) .range [x]:=by obtain rfl:=h.1;exact .range h.2.1 h.2.2
end
theorem k_un{o:UnaryOp}{a:Expr}{pos:Pos}{x:Ex}{V:Sc} :(o = .USub∧CE V a x→CE V (.UnaryOp o a pos) (.neg x))∧(o = .Not∧CE V a x→CE V (.UnaryOp o a pos) (.not x)):=⟨fun h=>O h.1<|.neg h.2,fun h=>O h.1<|.not h.2⟩
theorem k_disp{V:Sc}{kes:List (Option Expr)}{ks:ax}{vals:az}{M:List Ex}{pos:Pos}(h:KS kes ks∧CEs V vals M∧(∀k∈ks,PyData.strOk k=true∧k.cps.size≤Sz)∧ks.Nodup∧ks.length=M.length∧(ks≠ []∧ks.length≤15)∧M.all Ex.noPl=true) :CE V (.Dict kes vals pos) (.bi (.disp ks) M):=
 .disp h.1 h.2.1 ⟨h.2.2.2.1,h.2.2.1⟩ h.2.2.2.2.1 h.2.2.2.2.2.1 h.2.2.2.2.2.2
section
variable (f:(V:Sc)→(x:Ex)→(e:Expr)→Ck (CE V e x))
noncomputable def chkEs(V:Sc) :(M:List Ex)→(es:az)→Ck (CEs V es M)
 | [],[]=>⟨true,fun j0_=>.nil⟩
 | x::M,e::es=>((f V x e).and<|(chkEs V M es).and<|ckA x<|bvEs M).map fun h=>.cons h.1 h.2.1 h.2.2
 | _,_=>.no
noncomputable def chkO(V:Sc)(x:Ex)(o:Option Expr) :Ck (CEo V o x):=match o with
 | some e=>(f V x e).map .osome
 | none=>(match x with
  | .lit .none=>⟨true,fun j0_=>.onone⟩
  | _=>.no)
noncomputable def chkI(V:Sc)(it:Itk)(src:List Ex)(e:Expr) :Ck (IT V e it src):=match it with
 | .seq=>n1 (fun src=>IT V e .seq src) src fun x=>(f V x e).map .seq
 | .range=>nCall (fun e=>IT V e .range src) e fun g as pos=>nName (fun g=>IT V (.Call g as [] pos) .range src) g fun v p=>n1 (fun as=>IT V (.Call (.Name v p) as [] pos) .range src) as fun e=>n1 (fun src=>IT V (.Call (.Name v p) [e] [] pos) .range src) src fun x=>((Ck.dec (v=("range" :Str))).and ((ckG V v).and (f V x e))).map k_range
 | .enum=>nCall (fun e=>IT V e .enum src) e fun g as pos=>nName (fun g=>IT V (.Call g as [] pos) .enum src) g fun v p=>n1 (fun as=>IT V (.Call (.Name v p) as [] pos) .enum src) as fun e=>n1 (fun src=>IT V (.Call (.Name v p) [e] [] pos) .enum src) src fun x=>((Ck.dec (v=("enumerate" :Str))).and ((ckG V v).and (f V x e))).map k_enum
 | .zip=>nCall (fun e=>IT V e .zip src) e fun g as pos=>nName (fun g=>IT V (.Call g as [] pos) .zip src) g fun v p=>n2 (fun as=>IT V (.Call (.Name v p) as [] pos) .zip src) as fun a b=>n2 (fun src=>IT V (.Call (.Name v p) [a,b] [] pos) .zip src) src fun x z=>((Ck.dec (v=("zip" :Str))).and ((ckG V v).and ((f V x a).and ((f V z b).and (ckA x (bvE z)))))).map k_zip
 | .rev=>nCall (fun e=>IT V e .rev src) e fun g as pos=>nName (fun g=>IT V (.Call g as [] pos) .rev src) g fun v p=>n1 (fun as=>IT V (.Call (.Name v p) as [] pos) .rev src) as fun e=>n1 (fun src=>IT V (.Call (.Name v p) [e] [] pos) .rev src) src fun x=>((Ck.dec (v=("reversed" :Str))).and ((ckG V v).and (f V x e))).map k_rev
 | .range3=>nCall (fun e=>IT V e .range3 src) e fun g as pos=>nName (fun g=>IT V (.Call g as [] pos) .range3 src) g fun v p=>n3 (fun as=>IT V (.Call (.Name v p) as [] pos) .range3 src) as fun a b e=>n3 (fun src=>IT V (.Call (.Name v p) [a,b,e] [] pos) .range3 src) src fun x y z=>((Ck.dec (v=("range" :Str)∧Ex.noPl x=true∧Ex.noPl y=true)).and ((ckG V v).and ((f V x a).and ((f V y b).and (f V z e))))).map k_range3
noncomputable def stepE(V:Sc)(x:Ex)(e:Expr) :Ck (CE V e x):=match x with
 | .lit d=>nConstant (fun e=>CE V e _) e fun k j0_ j1_=>.ofB fun h=>.lit<|constB_ok (k:=k) (d:=d) h
 | .var i=>.or (nName (fun e=>CE V e _) e fun v j0_=>(ckV V v i).map .var)<|iAtN e fun x j0_ a j1_=>(ckAt V x a i).map .avar
 | .pl (.var i)=>.or (nName (fun e=>CE V e _) e fun v j0_=>(ckV V v i).map .pl)<|iAtN e fun x j0_ a j1_=>(ckAt V x a i).map .apl
 | .pop (.var i)=>iCalA e fun o m ap as pos=>n0 (fun as=>CE V (.Call (.Attribute o m ap) as [] pos) _) as (((Ck.dec (m=("pop" :Str)∧(ap.endLine == pos.line)=true)).and (ckPE V o i)).map k_pop)
 | .ite t a b=>nIfExp (fun e=>CE V e _) e fun et ea eb j0_=>((f V t et).and<|(f V a ea).and<|f V b eb).map fun h=>.ite h.1 h.2.1 h.2.2
 | .tin i (.var j)=>nCompare (fun e=>CE V e _) e fun l os es pos=>nName (fun l=>CE V (.Compare l os es pos) _) l fun x px=>n1 (fun os=>CE V (.Compare (.Name x px) os es pos) _) os fun op=>n1 (fun es=>CE V (.Compare (.Name x px) [op] es pos) _) es fun o=>nAttribute (fun o=>CE V (.Compare (.Name x px) [op] [o] pos) _) o fun o a ap=>nName (fun o=>CE V (.Compare (.Name x px) [op] [.Attribute o a ap] pos) _) o fun s j0_=>((Ck.dec<|op = .NotIn).and<|(ckV V x j).and<|ckAt V s a i).map k_tin
 | .tget i (.var j)=>nSubscript (fun e=>CE V e _) e fun l k pos=>nAttribute (fun l=>CE V (.Subscript l k pos) _) l fun o a ap=>nName (fun o=>CE V (.Subscript (.Attribute o a ap) k pos) _) o fun s p=>nName (fun k=>CE V (.Subscript (.Attribute (.Name s p) a ap) k pos) _) k fun x j0_=>((ckV V x j).and<|ckAt V s a i).map fun h=>.tget h.1 h.2
 | .tin _ _=>.no
 | .tget _ _=>.no
 | .mcall g as M=>iCalA e fun o v ap es pos=>nName (fun o=>CE V (.Call (.Attribute o v ap) es [] pos) _) o fun x j0_=>((Ck.ofB fnIs_ok).and ((Ck.dec (as=V.as∧(tb.m0≤g∧kf g=V.k∧tb.rb[g-tb.m0]?=some [])∧x=V.sn∧(x == ("__debug__" :Str))=false∧V.ats.isEmpty=false∧(ap.endLine == pos.line)=true∧es.length≤28)).and (chkEs f V M es))).map k_mcall
 | .gl k=>nName (fun e=>CE V e _) e fun v j0_=>((ckG V v).and<|.dec<|tb.gl[k]?=some v).map fun h=>.gl h.1 h.2
 | .tup M=>nTuple (fun e=>CE V e _) e fun es j0_ j1_=>((chkEs f V M es).and<|.dec<|M.length≤1000).map fun h=>.tup h.1 h.2
 | .list M=>nList (fun e=>CE V e _) e fun es j0_=>((chkEs f V M es).and<|.dec<|M.length≤1000).map fun h=>.list h.1 h.2
 | .op2 o a b=>nBinOp (fun e=>CE V e _) e fun ea op eb j0_=>((Ck.dec<|op=opOf o).and<|(f V a ea).and<|(f V b eb).and<|ckA a<|bvE b).map k_op2
 | .neg a=>nUnaryOp (fun e=>CE V e _) e fun o ea j0_=>((Ck.dec<|o = .USub).and<|f V a ea).map k_un.1
 | .not a=>nUnaryOp (fun e=>CE V e _) e fun o ea j0_=>((Ck.dec<|o = .Not).and<|f V a ea).map k_un.2
 | .cmp o a b=>nCompare (fun e=>CE V e _) e fun ea os es pos=>n1 (fun os=>CE V (.Compare ea os es pos) _) os fun op=>n1 (fun es=>CE V (.Compare ea [op] es pos) _) es fun eb=>((Ck.dec<|op=cmOp o).and<|(f V a ea).and<|(f V b eb).and<|ckA a<|bvE b).map k_cmp
 | .cmp2 o p a b u=>nCompare (fun e=>CE V e _) e fun ea os es pos=>n2 (fun os=>CE V (.Compare ea os es pos) _) os fun op op'=>n2 (fun es=>CE V (.Compare ea [op,op'] es pos) _) es fun eb eu=>((Ck.dec<|op=cmOp o∧op'=cmOp p).and<|(f V a ea).and<|(f V b eb).and<|f V u eu).map k_cmp2
 | .bo j M=>nBoolOp (fun e=>CE V e _) e fun o es j0_=>((Ck.dec<|o=bOp j).and<|chkEs f V M es).map k_bo
 | .idx a i=>nSubscript (fun e=>CE V e _) e fun ea ei j0_=>((f V a ea).and<|(f V i ei).and<|ckA a<|bvE i).map fun h=>.idx h.1 h.2.1 h.2.2
 | .slc a l h=>nSubscript (fun e=>CE V e _) e fun ea sl j0_=>(match sl with
  | .Slice lo hi none _=>((f V a ea).and<|(chkO f V l lo).and<|(chkO f V h hi).and<|ckA a<|bvE l++bvE h).map fun h=>.slc h.1 h.2.1 h.2.2.1 h.2.2.2
  | _=>.no)
 | .call g M=>iCalN e fun v j0_ es j1_=>((Ck.ofB fnIs_ok).and<|(ckG V v).and<|(chkEs f V M es).and<|.dec<|es.length≤29∧g<tb.m0).map k_call
 | .bi (.disp ks) M=>nDict (fun e=>CE V e _) e fun kes vals j0_=>((ckKS kes ks).and<|(chkEs f V M vals).and<|(Ck.dec (∀k∈ks,PyData.strOk k=true∧k.cps.size≤Sz)).and<|.dec<|ks.Nodup∧ks.length=M.length∧(ks≠ []∧ks.length≤15)∧M.all Ex.noPl=true).map k_disp
 | .bi .dis1 [x,z]=>nDict (fun e=>CE V e _) e fun kes vals pos=>n1 (fun kes=>CE V (.Dict kes vals pos) _) kes fun o=>n1 (fun vals=>CE V (.Dict [o] vals pos) _) vals fun v=>(match o with
  | some k=>((f V x k).and<|(f V z v).and<|.dec<|Ex.noPl x=true∧Ex.noPl z=true).map fun h=>.dis1 h.1 h.2.1 h.2.2
  | none=>.no)
 | .bi (.isi t) [a]=>iCalN e fun v p as pos=>n2 (fun as=>CE V (.Call (.Name v p) as [] pos) _) as fun ea eu=>nName (fun eu=>CE V (.Call (.Name v p) [ea,eu] [] pos) _) eu fun u j0_=>((Ck.dec (v=("isinstance" :Str))).and ((Ck.dec (u=(tyName t:Str))).and ((ckG V v).and ((ckG V u).and (f V a ea))))).map k_isi
 | .bi b [a]=>iCalN e fun v p as pos=>n1 (fun as=>CE V (.Call (.Name v p) as [] pos) _) as fun ea=>((Ck.dec<|b.one=true).and<|(Ck.dec<|v=biName b).and<|(ckG V v).and<|f V a ea).map k_bi1
 | .bi .count M=>iCalA e fun a m ap as pos=>n1 (fun as=>CE V (.Call (.Attribute a m ap) as [] pos) _) as fun k=>((Ck.dec (m=("count" :Str)∧baseB a=true∧baseB k=true∧(ap.endLine == pos.line)=true)).and (chkEs f V M [a,k])).map fun h=>.bx (k_count h.1) h.2
 | .bi .dzip M=>iCalN e fun v p as pos=>n1 (fun as=>CE V (.Call (.Name v p) as [] pos) _) as fun c=>nCall (fun c=>CE V (.Call (.Name v p) [c] [] pos) _) c fun u bs pos'=>nName (fun u=>CE V (.Call (.Name v p) [.Call u bs [] pos'] [] pos) _) u fun u p'=>n2 (fun bs=>CE V (.Call (.Name v p) [.Call (.Name u p') bs [] pos'] [] pos) _) bs fun a b=>(((Ck.dec (v=("dict" :Str)∧u=("zip" :Str))).and ((ckG V v).and (ckG V u))).and (chkEs f V M [a,b])).map fun h=>.bx (k_dzip h.1) h.2
 | .bi .dict0 []=>nDict (fun e=>CE V e _) e fun ks vs dp=>n0 (fun ks=>CE V (.Dict ks vs dp) _) ks<|n0 (fun vs=>CE V (.Dict [] vs dp) _) vs ⟨true,fun j0_=>.bx .dict0 .nil⟩
 | .bi _ _=>.no
 | .comp elt t it src conds=>(match e with
  | .ListComp ee [⟨g,iter,ifs,0⟩] scope _=>((ckCG g t).ck.and<|(Ck.dec<|it.pairs=true→t.isTup=true).and<|(chkI f V it src iter).and<|(Ck.ofB<|compB__ok (scope:=scope) (V:=V) (vs:=(ckCG g t).vs)).and<|(Ck.dec<|V.hi≤(ckCG g t).i).and<|(f (compSc scope V (ckCG g t).vs (ckCG g t).i) elt ee).and<|(chkEs f (compSc scope V (ckCG g t).vs (ckCG g t).i) conds ifs).and<|ckN elt conds<|tgtVars t).map fun⟨h0,hz,h1,h2,h3,h4,h5,h6⟩=>.comp h0 hz h1 h2 h3 h4 h5 h6
  | _=>.no)
end
noncomputable def chkE(n:Nat) :(V:Sc)→(x:Ex)→(e:Expr)→Ck (CE V e x):=Nat.rec (fun j0_ j1_ j2_=>.no) (fun j0_ f=>stepE f) n
noncomputable def ckTs(V:Sc) :(es:az)→(is:aw)→Ck (TGs V es is)
 | [],[]=>⟨true,fun j0_=>.nil⟩
 | e::es,i::is=>nName (fun e=>TGs V (e::es) (i::is)) e fun x j0_=>((ckV V x i).and<|ckTs V es is).map fun h=>.cons h.1 h.2
 | _,_=>.no
noncomputable def ckT(V:Sc)(g:Expr)(t:Tgt) :Ck (TG V g t):=match t with
 | .one i=>nName (fun g=>TG V g<|.one i) g fun x j0_=>(ckV V x i).map .one
 | .tup is=>nTuple (fun g=>TG V g<|.tup is) g fun es j0_ j1_=>(ckTs V es is).map .tup
theorem k_raise{V:Sc}{k k' msg:Str}{np cpos pos ap:Pos}{kk:Nat}(h:(k'=k∧k'∈tb.cl)∧V.isG k') :CS V (.Raise (some<|.Call (.Name k' np) [.Constant (.str msg) kk ap] [] cpos) none pos) (.raise k):=by obtain⟨⟨rfl,a⟩,b⟩:=h;exact .raise b a
theorem k_app{V:Sc}{m:Str}{o:Expr}{apos pos p':Pos}{v:Expr}{i:Nat}{e:Ex}(h:(m=("append" :Str)∧(apos.endLine == pos.line)=true)∧PE V o i∧CE V v e) :CS V (.Expr (.Call (.Attribute o m apos) [v] [] pos) p') (.app (.var i) e):=by obtain⟨⟨rfl,a⟩,b,c⟩:=h;exact .app b c a
noncomputable def ckHV(d:D)(e:Expr) :Ck (HV e d):=.or (nConstant (fun e=>HV e d) e fun k j0_ j1_=>.ofB fun h=>.one<|constB_ok (k:=k) (d:=d) h) (match d with
 | .tuple [d1,d2]=>nTuple (fun e=>HV e _) e fun es j0_ j1_=>n2 (fun es=>HV (.Tuple es _ _) _) es fun a b=>nConstant (fun a=>HV (.Tuple [a,b] _ _) _) a fun k j0_ j1_=>nConstant (fun b=>HV (.Tuple [_,b] _ _) _) b fun k' j0_ j1_=>((Ck.ofB fun h=>constB_ok (k:=k) (d:=d1) h).and<|.ofB fun h=>constB_ok (k:=k') (d:=d2) h).map fun h=>.two h.1 h.2
 | _=>.no)
theorem k_hs{V:Sc}{cn cn':Str}{cs:ax}{p rp hp:Pos}{e:Expr}{d:D}{hs:List ExceptHandler}{M:List (Str×ax×D)}(h:(cn'=cn∧cs=tb.hb cn∧cn∈tb.hc∧(tb.hb cn).all tb.cl.contains=true)∧V.isG cn∧HV e d∧HS V hs M) :HS V (.ExceptHandler (some<|.Name cn p) none [.Return (some e) rp] hp::hs) ((cn',cs,d)::M):=by obtain⟨⟨rfl,rfl,a⟩,b,c,d⟩:=h;exact .cons b a c d
noncomputable def ckH(V:Sc) :(M:List (Str×ax×D))→(hs:List ExceptHandler)→Ck (HS V hs M)
 | [],[]=>⟨true,fun j0_=>.nil⟩
 | (cn',cs,x)::M,.ExceptHandler (some c) none [s] hp::hs=>nName (fun c=>HS V (.ExceptHandler (some c) none [s] hp::hs) ((cn',cs,x)::M)) c fun cn p=>nRet (fun s=>HS V (.ExceptHandler (some<|.Name cn p) none [s] hp::hs) ((cn',cs,x)::M)) s fun e j0_=>((Ck.dec<|cn'=cn∧cs=tb.hb cn∧cn∈tb.hc∧(tb.hb cn).all tb.cl.contains=true).and<|(ckG V cn).and<|(ckHV x e).and<|ckH V M hs).map k_hs
 | _,_=>.no
theorem k_try{V:Sc}{pos:Pos}{body:List Stmt}{hs:List ExceptHandler}{xb:List St}{M:List (Str×ax×D)}(h:CSs V body xb∧HS V hs M∧hs.isEmpty=false) :CS V (.Try body hs [] [] pos) (.tryx xb M):=.tryx h.1 h.2.1 fun q=>by have:=h.2.2;rw[q]at this;exact Bool.noConfusion this
noncomputable def crIs(k:Nat)(v:Str) :Bool:=match tb.cr k with
 | some c=>decide<|c.name=v
 | none=>false
theorem crIs_ok{k:Nat}{v:Str}(h:crIs k v=true) :∃c,tb.cr k=some c∧c.name=v:=by unfold crIs at h;cases q:tb.cr k with
 | none=>have h:=q▸h;cases h
 | some d=>rw[q]at h;exact⟨d,rfl,of_decide_eq_true h⟩
theorem k_new{V:Sc}{f:Nat}{as:aw}{v x:Str}{p np cpos pos:Pos}{args:az}{M:List Ex}{rest:List Stmt}{body:List St}(h:((∃c,tb.cr (kf f)=some c∧c.name=v)∧ ∃d,tb.fn[f]?=some d∧d.name=("__init__" :Str))∧(f=mi (kf f)∧kf f < 2∧as=newAs V∧V.ats.isEmpty=true∧V.names.lookup x=some .local∧V.vars.lookup x=none∧(x == ("__debug__" :Str))=false∧args.isEmpty=false)∧V.isG v∧CEs V args M∧CSs (newSc V (kf f) x) rest body) :
  CSs V (.Assign [.Name x p] (.Call (.Name v np) args [] cpos) pos::rest) [.new f as M body]:=by
 obtain⟨⟨⟨c,h1,rfl⟩,h2⟩,⟨hf,hk,rfl,h3,h4,h5,h6,h7⟩,h8,h9,h10⟩:=h;generalize kf f=k at *;subst hf;exact .new ⟨h1,hk⟩ h8 ⟨List.isEmpty_iff.mp h3,h4,h5,h6⟩ h9 ⟨fun q=>by rw[q]at h7;exact Bool.noConfusion h7,h2⟩ h10
theorem k_rv{V:Sc}{m:Str}{o:Expr}{apos pos p':Pos}{i:Nat}(h:(m=("reverse" :Str)∧(apos.endLine == pos.line)=true)∧PE V o i) :CS V (.Expr (.Call (.Attribute o m apos) [] [] pos) p') (.rev (.var i)):=by obtain⟨⟨rfl,a⟩,b⟩:=h;exact .rev b a
theorem k_mst{V:Sc}{f:Nat}{v x:Str}{as rb:aw}{p ap pos p':Pos}{args:az}{M:List Ex}(h:(∃d,tb.fn[f]?=some d∧d.name=v)∧(as=V.as∧rb=rbA (rbF f) V.as∧(tb.m0≤f∧kf f=V.k)∧x=V.sn∧(x == ("__debug__" :Str))=false∧V.ats.isEmpty=false∧(ap.endLine == pos.line)=true∧args.length≤28)∧CEs V args M) :CS V (.Expr (.Call (.Attribute (.Name x p) v ap) args [] pos) p') (.mst f as rb M):=by obtain⟨⟨d,hd,rfl⟩,⟨rfl,rfl,h1,h3,h4,h5,h6,h7⟩,h8⟩:=h;exact .mst ⟨hd,h1⟩ ⟨h3,h4,fun q=>by rw[q]at h5;exact Bool.noConfusion h5⟩ h6 h8 h7
section
variable (g:(V:Sc)→(zs:List St)→(ss:List Stmt)→Ck (CSs V ss zs))
noncomputable def stepS(V:Sc)(z:St)(s:Stmt) :Ck (CS V s z):=match z with
 | .asg (.one i) e=>nAsg (fun s=>CS V s _) s fun t value pos=>.or (nName (fun t=>CS V (.Assign [t] value pos) _) t fun x j0_=>((ckV V x i).and<|chkE 60 V e value).map fun h=>.asg h.1 h.2)<|nAttribute (fun t=>CS V (.Assign [t] value pos) _) t fun o a ap=>nName (fun o=>CS V (.Assign [.Attribute o a ap] value pos) _) o fun x j0_=>((ckAt V x a i).and<|(chkE 60 V e value).and<|.dec<|noComp value=true).map fun h=>.asgA h.1 h.2.1 h.2.2
 | .asg (.tup is) e=>nAsg (fun s=>CS V s _) s fun t value pos=>nTuple (fun t=>CS V (.Assign [t] value pos) _) t fun es j0_ j1_=>((ckTs V es is).and<|(chkE 60 V e value).and<|.dec<|noComp value=true∧noTup value=true).map fun h=>.asgT h.1 h.2.1 h.2.2.1 h.2.2.2
 | .no=>⟨true,fun j0_=>.no⟩
 | .setI (.var i) k e=>nAsg (fun s=>CS V s _) s fun t value pos=>nSubscript (fun t=>CS V (.Assign [t] value pos) _) t fun o idx j0_=>((ckPE V o i).and<|(chkE 60 V e value).and<|chkE 60 V k idx).map fun h=>.setI h.1 h.2.1 h.2.2
 | .app (.var i) e=>nExp (fun s=>CS V s _) s fun c pos'=>nCall (fun c=>CS V (.Expr c pos') _) c fun a as pos=>nAttribute (fun a=>CS V (.Expr (.Call a as [] pos) pos') _) a fun o m apos=>n1 (fun as=>CS V (.Expr (.Call (.Attribute o m apos) as [] pos) pos') _) as fun v=>((Ck.dec (m=("append" :Str)∧(apos.endLine == pos.line)=true)).and ((ckPE V o i).and (chkE 60 V e v))).map k_app
 | .tab0 i=>nAsg (fun s=>CS V s _) s fun t value pos=>nAttribute (fun t=>CS V (.Assign [t] value pos) _) t fun o a ap=>nName (fun o=>CS V (.Assign [.Attribute o a ap] value pos) _) o fun x p=>nDict (fun v=>CS V (.Assign [.Attribute (.Name x p) a ap] v pos) _) value fun ks vs dp=>n0 (fun ks=>CS V (.Assign [.Attribute (.Name x p) a ap] (.Dict ks vs dp) pos) _) ks<|n0 (fun vs=>CS V (.Assign [.Attribute (.Name x p) a ap] (.Dict [] vs dp) pos) _) vs<|(ckAt V x a i).map .tab0
 | .tset i (.var j) e=>nAsg (fun s=>CS V s _) s fun t value pos=>nSubscript (fun t=>CS V (.Assign [t] value pos) _) t fun o k p'=>nAttribute (fun o=>CS V (.Assign [.Subscript o k p'] value pos) _) o fun o a ap=>nName (fun o=>CS V (.Assign [.Subscript (.Attribute o a ap) k p'] value pos) _) o fun x p=>nName (fun k=>CS V (.Assign [.Subscript (.Attribute (.Name x p) a ap) k p'] value pos) _) k fun z j0_=>((ckAt V x a i).and<|(ckV V z j).and<|chkE 60 V e value).map fun h=>.tset h.1 h.2.1 h.2.2
 | .tset _ _ _=>.no
 | .exp e=>nExp (fun s=>CS V s _) s fun v j0_=>((chkE 60 V e v).and<|.dec<|noComp v=true).map fun h=>.exp h.1 h.2
 | .new _ _ _ _=>.no
 | .rev (.var i)=>nExp (fun s=>CS V s _) s fun c pos'=>nCall (fun c=>CS V (.Expr c pos') _) c fun a as pos=>nAttribute (fun a=>CS V (.Expr (.Call a as [] pos) pos') _) a fun o m apos=>n0 (fun as=>CS V (.Expr (.Call (.Attribute o m apos) as [] pos) pos') _) as (((Ck.dec (m=("reverse" :Str)∧(apos.endLine == pos.line)=true)).and (ckPE V o i)).map k_rv)
 | .mst f as rb M=>nExp (fun s=>CS V s _) s fun c pos'=>nCall (fun c=>CS V (.Expr c pos') _) c fun a es pos=>nAttribute (fun a=>CS V (.Expr (.Call a es [] pos) pos') _) a fun o v ap=>nName (fun o=>CS V (.Expr (.Call (.Attribute o v ap) es [] pos) pos') _) o fun x j0_=>((Ck.ofB fnIs_ok).and ((Ck.dec (as=V.as∧rb=rbA (rbF f) V.as∧(tb.m0≤f∧kf f=V.k)∧x=V.sn∧(x == ("__debug__" :Str))=false∧V.ats.isEmpty=false∧(ap.endLine == pos.line)=true∧es.length≤28)).and (chkEs (chkE 60) V M es))).map k_mst
 | .iff t a b=>.or (nIf (fun s=>CS V s _) s fun et sa sb j0_=>((chkE 60 V t et).and<|(g V a sa).and<|g V b sb).map fun h=>.iff h.1 h.2.1 h.2.2) (match a,b with
  | [.ret x],[.ret y]=>nRet (fun s=>CS V s _) s fun v pos=>nIfExp (fun v=>CS V (.Return (some v) pos) _) v fun et ea eb j0_=>((chkE 60 V t et).and<|(chkE 60 V x ea).and<|chkE 60 V y eb).map fun h=>.retI h.1 h.2.1 h.2.2
  | _,_=>.no)
 | .ret e=>nRet (fun s=>CS V s _) s fun v j0_=>(chkE 60 V e v).map .ret
 | .for_ t it src body tmp=>nFor (fun s=>CS V s _) s fun u iter sb j0_=>((ckT V u t).and<|(Ck.dec<|it.pairs=true→t.isTup=true).and<|(chkI (chkE 60) V it src iter).and<|g V body sb).map fun h=>.for1 h.1 h.2.1 h.2.2.1 h.2.2.2
 | .whl t body tmp=>nWhl (fun s=>CS V s _) s fun et sb j0_=>((chkE 60 V t et).and<|g V body sb).map fun h=>.whl h.1 h.2
 | .raise k=>nRai (fun s=>CS V s _) s fun c pos=>nCall (fun c=>CS V (.Raise (some c) none pos) _) c fun u as cp=>nName (fun u=>CS V (.Raise (some<|.Call u as [] cp) none pos) _) u fun k' np=>n1 (fun as=>CS V (.Raise (some<|.Call (.Name k' np) as [] cp) none pos) _) as fun a=>nConstant (fun a=>CS V (.Raise (some<|.Call (.Name k' np) [a] [] cp) none pos) _) a fun m kk ap=>(match m with
  | .str _=>((Ck.dec<|k'=k∧k'∈tb.cl).and<|ckG V k').map k_raise
  | _=>.no)
 | .tryx xb M=>nTry (fun s=>CS V s _) s fun body hs j0_=>((g V xb body).and<|(ckH V M hs).and<|.dec<|hs.isEmpty=false).map k_try
noncomputable def stepSs:(V:Sc)→(zs:List St)→(ss:List Stmt)→Ck (CSs V ss zs)
 | _,[],[]=>⟨true,fun j0_=>.nil⟩
 | V,[.new f as M body],s :: rest=>nAsg (fun s=>CSs V (s :: rest) _) s fun t u pos=>nName (fun t=>CSs V (.Assign [t] u pos :: rest) _) t fun x p=>nCall (fun u=>CSs V (.Assign [.Name x p] u pos :: rest) _) u fun u args cp=>nName (fun u=>CSs V (.Assign [.Name x p] (.Call u args [] cp) pos :: rest) _) u fun v j0_=>(((Ck.ofB crIs_ok).and (Ck.ofB fnIs_ok)).and ((Ck.dec (f=mi (kf f)∧kf f < 2∧as=newAs V∧V.ats.isEmpty=true∧V.names.lookup x=some .local∧V.vars.lookup x=none∧(x == ("__debug__" :Str))=false∧args.isEmpty=false)).and ((ckG V v).and ((chkEs (chkE 60) V M args).and (g (newSc V (kf f) x) body rest))))).map k_new
 | V,z::zs,s::ss=>((stepS g V z s).and<|g V zs ss).map fun h=>.cons h.1 h.2
 | _,_,_=>.no
end
noncomputable def chkSs(n:Nat) :(V:Sc)→(zs:List St)→(ss:List Stmt)→Ck (CSs V ss zs):=Nat.rec (fun j0_ j1_ j2_=>.no) (fun j0_ f=>stepSs f) n
end Mv
end
section
set_option backward.match.sparseCases false
namespace Mv
open PySem PyProof.Rows
noncomputable abbrev snN:Str:="self"
noncomputable def bNs(fn:Fn)(ns:ax) :ax:=selfN fn snN++ns.take (fn.np - fn.na)
noncomputable def bL:List DefRec→List Fn→List ax→List ((Nat→Value)→Str→Value→Value→Value→Sem (List<|Str×Value))
 | d::X,fn::fns,ns::nss=>(fun g qual pm code doc=>bindArgs (methDef d.name qual d.params d.body d.scope pm code doc) ⟨(List.range (bNs fn ns).length).map g,[]⟩)::bL X fns nss
 | _,_,_=>[]
noncomputable def bR:List DefRec→List Fn→List ax→List ((Nat→Value)→Str→Value→Value→Value→Sem (List<|Str×Value))
 | _::X,fn::fns,ns::nss=>(fun g j0_ j1_ j2_ j3_=>pure<|(bNs fn ns).zip<|(List.range (bNs fn ns).length).map g)::bR X fns nss
 | _,_,_=>[]
theorem map_range(vs:ay) :(List.range vs.length).map (fun i=>(vs[i]?).getD .none)=vs:=by induction vs with
 | nil=>rfl
 | cons v vs ih=>exact O List.range_succ_eq_map<|O List.map_cons<|O List.map_map<|congrArg (v :: ·) ih
end Mv
end
section
namespace Mv
open PySem PySem.W PyProof.Rows
noncomputable def fokB(f:Nat)(d:DefRec)(fn:Fn)(names:ax) :Bool:=
 decide ((names++selfN fn snN).Nodup∧fn.np≤fn.na+names.length∧fn.na≤fn.np∧(fn.na=if f<tb.m0 then 0 else tb.an.length)∧fn.rb=rbF f∧(∀x∈names,d.scope.names.lookup x=some .local∨d.scope.names.lookup x=some .cell)∧ ∀x∈selfN fn snN,d.scope.names.lookup x=some .local)&&(chkSs 300 (scOf (kf f) d fn names snN) fn.body d.body).val &&
 decide (d.scope.isCoroutine=false∧d.scope.isGenerator=false∧d.scope.kind = .function∧ ∀x∈d.scope.names,x.2≠ .free)
theorem fokB_ok{f:Nat}{d:DefRec}{fn:Fn}{names:ax}(h:fokB f d fn names=true)(hb:∀g qual pm code doc,bindArgs (methDef d.name qual d.params d.body d.scope pm code doc) ⟨(List.range (bNs fn names).length).map g,[]⟩=pure ((bNs fn names).zip<|(List.range (bNs fn names).length).map g)) :FOk f d fn names snN:=by
 refine hidG fun G g1=>?_;obtain⟨h,h3⟩:=Bool.and_eq_true_iff.mp h;refine hidG fun G1 g2=>?_;obtain⟨h1,h2⟩:=Bool.and_eq_true_iff.mp h;have Q:=of_decide_eq_true h1;have Z:=of_decide_eq_true h3;refine g2 ?_;refine g1 ?_;refine⟨Q.1,Q.2.1,Q.2.2.1,Q.2.2.2.1,Q.2.2.2.2.1,Q.2.2.2.2.2.1,Q.2.2.2.2.2.2,fun J vs hJ hv qual pm code doc=>?_,(chkSs 300 _ _ _).ok h2,Z.1,Z.2.1,Z.2.2.1,Z.2.2.2⟩;have e:(selfV J++vs).length=(bNs fn names).length:=by
  unfold bNs selfN;refine O List.length_append<|O List.length_append<|O List.length_take ?_;rcases J with _ | j
  .refine O (if_pos (show fn.na=0 from hJ.symm)) ?_;show 0+vs.length=0+_;exact(Nat.le_antisymm (Ln [vs.length,min (fn.np - fn.na) names.length,fn.4,fn.1,fn.np - fn.na] (.w (.a (.c 0) .x)<|.a (.c 0) .y) [Ge (.a .z .x) .u,Gf .y<|.v 4,Gf (.a (.v 4) .z) .u] rfl hv (Nat.min_eq_left (a:=fn.np - fn.na) (b:=names.length)<|Ln [fn.np - fn.na,names.length,fn.1,fn.4] (.w .x .y) [Gl .z<|.a .u .y,Ge (.a .x .u) .z] rfl Q.2.1<|Nat.sub_add_cancel (n:=fn.np) (m:=fn.na) Q.2.2.1)<|Nat.sub_add_cancel (n:=fn.np) (m:=fn.na) Q.2.2.1)<|Ln [min (fn.np - fn.na) names.length,vs.length,fn.4,fn.1,fn.np - fn.na] (.w (.a (.c 0) .x)<|.a (.c 0) .y) [Gf (.a .z .y) .u,Ge .x<|.v 4,Ge (.a (.v 4) .z) .u] rfl hv (Nat.min_eq_left (a:=fn.np - fn.na) (b:=names.length)<|Ln [fn.np - fn.na,names.length,fn.1,fn.4] (.w .x .y) [Gl .z<|.a .u .y,Ge (.a .x .u) .z] rfl Q.2.1<|Nat.sub_add_cancel (n:=fn.np) (m:=fn.na) Q.2.2.1)<|Nat.sub_add_cancel (n:=fn.np) (m:=fn.na) Q.2.2.1)
  .refine O (if_neg (show ¬fn.na=0 from fun q=>absurd (show 8=0 from hJ.trans q) (by decide))) ?_;show 1+vs.length=1+_;exact(Nat.le_antisymm (Ln [vs.length,min (fn.np - fn.na) names.length,fn.4,fn.1,fn.np - fn.na] (.w (.a (.c 1) .x)<|.a (.c 1) .y) [Ge (.a .z .x) .u,Gf .y<|.v 4,Gf (.a (.v 4) .z) .u] rfl hv (Nat.min_eq_left (a:=fn.np - fn.na) (b:=names.length)<|Ln [fn.np - fn.na,names.length,fn.1,fn.4] (.w .x .y) [Gl .z<|.a .u .y,Ge (.a .x .u) .z] rfl Q.2.1<|Nat.sub_add_cancel (n:=fn.np) (m:=fn.na) Q.2.2.1)<|Nat.sub_add_cancel (n:=fn.np) (m:=fn.na) Q.2.2.1)<|Ln [min (fn.np - fn.na) names.length,vs.length,fn.4,fn.1,fn.np - fn.na] (.w (.a (.c 1) .x)<|.a (.c 1) .y) [Gf (.a .z .y) .u,Ge .x<|.v 4,Ge (.a (.v 4) .z) .u] rfl hv (Nat.min_eq_left (a:=fn.np - fn.na) (b:=names.length)<|Ln [fn.np - fn.na,names.length,fn.1,fn.4] (.w .x .y) [Gl .z<|.a .u .y,Ge (.a .x .u) .z] rfl Q.2.1<|Nat.sub_add_cancel (n:=fn.np) (m:=fn.na) Q.2.2.1)<|Nat.sub_add_cancel (n:=fn.np) (m:=fn.na) Q.2.2.1)
 have q:=hb (fun i=>((selfV J++vs)[i]?).getD .none) qual pm code doc;rw[← e,map_range]at q;exact q
noncomputable def fnsB:Nat→List DefRec→List Fn→List ax→Bool
 | f,d::X,fn::fns,ns::nss=>fokB f d fn ns&&fnsB (f+1) X fns nss
 | _,_,[],_=>true
 | _,_,_,_=>false
theorem fnsB_ok:∀{k:Nat}{X:List DefRec}{fns:List Fn}{nss:List ax},fnsB k X fns nss=true→bL X fns nss=bR X fns nss→ ∀(f:Nat)(fn:Fn)(d:DefRec),fns[f]?=some fn→X[f]?=some d→ ∃names,FOk (k+f) d fn names snN:=by intro k X fns;induction fns generalizing X k with
 | nil=>intro nss _ _ f fn d h1;exact nos h1
 | cons fn fns ih=>intro nss h e f fn' d h1 h2;cases X with
  | nil=>exact nos h2
  | cons d' X=>cases nss with
   | nil=>exact Bool.noConfusion h
   | cons ns nss=>have h:=Bool.and_eq_true_iff.mp (show(fokB k d' fn ns&&fnsB (k+1) X fns nss)=true from h);cases f with
    | zero=>exact O (sos h1).symm<|O (sos h2).symm<|⟨ns,fokB_ok h.1 fun g qual pm code doc=>congrFun (congrFun (congrFun (congrFun (congrFun (List.cons.inj e).1 g) qual) pm) code) doc⟩
    | succ f=>have q:=ih h.2 (List.cons.inj e).2 f fn' d h1 h2;rw[Nat.add_right_comm]at q;exact q
noncomputable def freeB(p:Program)(loose:ax) :Bool:=
 biNames.all fun x=>!startupNames.contains x && !loose.contains x && !((recsOf p).map (·.name)).contains x && !((litsOf p).map (·.1)).contains x && !((clssOf p loose).map (·.name)).contains x
theorem look_of_fast{name:Str}(h:(fastLookup "object" name).isSome=true) :∃y,typeLookup (.type "object") name=pure y:=by rw [typeLookup_type]; refine O builtinLookup_eq_fast ?_;cases q:fastLookup "object" name with
 | none=>have h:=q▸h;cases h
 | some r=>exact⟨r,rfl⟩
noncomputable def crB:Bool:=
 (tb.an.all fun a=>match fastLookup "object" a with | some none=>true | _=>false) &&
 ((tb.fn.drop 27).all fun d=>(fastLookup "object" d.name).isSome && !tb.an.contains d.name) && decide ((recsOf Hq.view).length=27∧(clM (clN (cName 0))).length=7)
variable [hp:Hp]
section
variable {loose:ax}{mean:ExcName→Option Value}
theorem Gd.of_top{glob:aB}(T:Top Hq.view loose mean mg mb B)(TE:TopE Hq.view loose mg B)(hm:∀k,(plainsOf Hq.view loose).find? (fun c=>c.name==cName k)=tb.cr k)(hcB:crB=true)(hf:freeB Hq.view loose=true)
  (hcl:∀k∈Lq.cls, ∃C Bb newId initId bm,OwnClsQ k C bm newId mg B∧ExcBaseFacts Bb newId initId bm)
  (hask:∀c∈Lq.hcs, ∃ae,mg c=some ae∧ ∀k∈Lq.cls, ∀C,mg k=some (.ref C)→Asked B C ae ((tb.hb c).contains k))
  (hgl:∀(k:Nat)(x:Str)(d:D),Lq.gls[k]?=some x→glob[k]?=some d→ ∃v,mg x=some v∧ ∀(h':Heap)(Z:Addr→Prop),(∀a o,B.get? a=some o→h'.get? a=some o)→(∀a o,B.get? a=some o→Z a)→Rep h' Z v d) :Gd glob where
 g:=T.g
 b:=T.b
 nl:=T.nolimit
 bt:=T.builtins
 fn:=fun f d hf0 hd=>by have hd:(recsOf Hq.view++_)[f]?=some d:=hd;rw[List.getElem?_append_left (by refine O (of_decide_eq_true (Bool.and_eq_true_iff.mp hcB).2).1 ?_;exact hf0)]at hd;exact T.fn d<|List.mem_of_getElem? hd
 pl:=fun k c hc=>by
  refine hidG fun G1 g2=>?_;have z:=Bool.and_eq_true_iff.mp (Bool.and_eq_true_iff.mp hcB).1;have ln:=of_decide_eq_true (Bool.and_eq_true_iff.mp hcB).2;refine ex3 (TE c<|List.mem_of_find?_eq_some<|(hm k).trans hc) fun C N mN Q=>?_;have hC:=Q.1;have P:=Q.2;refine g2 ?_;refine⟨C,N,mN,hC,P.ofCmp,fun a ha=>am_miss_of_fast<|List.all_eq_true.mp z.1 a ha,fun f d hf0 hd=>?_⟩;have hk:d∈tb.fn.drop 27:=by exact List.mem_of_getElem? (i:=f - 27)<|O (List.getElem?_drop)<|O (Nat.add_sub_cancel' (show 27≤f from hf0.1)) hd
  obtain⟨q1,q2⟩:=Bool.and_eq_true_iff.mp<|List.all_eq_true.mp z.2 d hk;refine⟨?_,fun q=>?_,look_of_fast q1⟩
  .have hd:(recsOf Hq.view++(clM (clN<|cName 0)++clM (clN<|cName 1)))[f]?=some d:=hd;have hin:d∈clM (some c):=by
    rw[List.getElem?_append_right (by refine O ln.1 ?_;exact hf0.1),ln.1]at hd;have hkf:=hf0.2;unfold kf at hkf;by_cases q:f<34
    .rw[if_pos (show f<tb.m1 from q)]at hkf;subst hkf;rw[List.getElem?_append_left (by rw[ln.2];exact(Nat.sub_lt_iff_lt_add hf0.1).mpr q)]at hd;have hc:clN (cName 0)=some c:=hc;rw[hc]at hd;exact List.mem_of_getElem? hd
    .rw[if_neg (show ¬f<tb.m1 from q)]at hkf;subst hkf;rw[List.getElem?_append_right (by rw[ln.2];exact Nat.le_sub_of_add_le<|Nat.not_lt.mp q)]at hd;have hc:clN (cName 1)=some c:=hc;rw[hc]at hd;exact List.mem_of_getElem? hd
   refine ex1 (List.mem_map.mp hin) fun m u=>?_;refine O u.2.symm ?_;exact u.1
  .rw[List.contains_iff_mem.mpr q]at q2;exact Bool.noConfusion q2
 gl:=hgl
 bi:=fun x hx=>by simp only[freeB,List.all_eq_true,Bool.and_eq_true,Bool.not_eq_true',List.contains_eq_mem,decide_eq_false_iff_not]at hf;refine hidG fun G g1=>?_;obtain⟨⟨⟨⟨h1,h2⟩,h3⟩,h4⟩,h5⟩:=hf x hx;exact g1<|T.free x h1 h2 h3 h4 h5
 cl:=hcl
 ask:=hask
theorem const_int{x:Str}{i:Int}(T:Top Hq.view loose mean mg mb B)(hv:valOf Hq.view x=some (.int i)) :∃v,mg x=some v∧ ∀(h':Heap)(Z:Addr→Prop),(∀a o,B.get? a=some o→h'.get? a=some o)→(∀a o,B.get? a=some o→Z a)→Rep h' Z v (.int i):=by refine ex1 (T.const x _ hv) fun v q=>?_;refine⟨v,q.1,fun h' Z j0_ j1_=>?_⟩;cases q.2 B with
 | int i t=>exact .int i t
theorem loose_int{lv:List (Str×WData)}{x:Str}{i:Int}(ae:LooseAre lv mg B)(hm:(x,WData.int i)∈lv) :∃v,mg x=some v∧ ∀(h':Heap)(Z:Addr→Prop),(∀a o,B.get? a=some o→h'.get? a=some o)→(∀a o,B.get? a=some o→Z a)→Rep h' Z v (.int i):=by obtain⟨v,hg,hr⟩:=ae.val _ hm;refine⟨v,hg,fun h' Z j0_ j1_=>?_⟩;cases hr with
 | int i t=>exact .int i t
end
theorem ints_rep{P:Params}{h:Heap}{Z:Addr→Prop} :∀{vs:ay}{M:List Int},WellAll P h vs (ofPys<|M.map .int)→RepAll h Z vs (M.map .int):=by intro vs M;induction M generalizing vs with
 | nil=>exact @fun W=>by cases W;exact .nil
 | cons x M ih=>intro W;cases W with
  | cons a b=>cases a with
   | int _ t=>exact .cons (.int _ t)<|ih b
theorem law_top{loose:ax}{mean mean':ExcName→Option Value}{s₁:Shared}{P:Pr}{nss:List ax}{f n:Nat}{d:DefRec}{fa l:Addr}{M:List Int}{outs:List Slot}{c:ClaimW}{cl:Str→Option Addr}{args:List WData}
  (hh:B=s₁.heap) (T:Top Hq.view loose mean mg mb B) (TE:TopE Hq.view loose mg B) (hm:∀k,(plainsOf Hq.view loose).find? (fun c=>c.name==cName k)=tb.cr k) (hcB:crB=true) (hall:fnsB 0 tb.fn P.fns nss=true) (hbd:bL tb.fn P.fns nss=bR tb.fn P.fns nss) (hfree:freeB Hq.view loose=true)
  (hcl:∀k∈Lq.cls, ∃C Bb newId initId bm,OwnClsQ k C bm newId mg B∧ExcBaseFacts Bb newId initId bm)
  (hask:∀c∈Lq.hcs, ∃ae,mg c=some ae∧ ∀k∈Lq.cls, ∀C,mg k=some (.ref C)→Asked B C ae ((tb.hb c).contains k))
  (hgl:∀(k:Nat)(x:Str)(d:D),Lq.gls[k]?=some x→P.glob[k]?=some d→ ∃v,mg x=some v∧ ∀(h':Heap)(Z:Addr→Prop),(∀a o,B.get? a=some o→h'.get? a=some o)→(∀a o,B.get? a=some o→Z a)→Rep h' Z v d)
  (hf44:f<27) (hd:(recsOf Hq.view)[f]?=some d) (hfa:mg d.name=some (.ref fa)) (W:Well w.params s₁.heap (.ref l) (ofPy<|.list<|M.map .int)) (hlen:M.length≤Sz) (hn:n≤340) (hgen:s₁.gens = #[])
  (hr:∀cls,c.raises args cls=false) (hp:c.post args (.bool true) args=true)
  (h:cF P n f [.fz<|.list<|M.map .int]=some (.ok<|.fz<|.bool true,outs)) :
  codeAny (model prog w) callerA (.call (.ref fa) ⟨[.ref l],[]⟩) (GoodWG c cl mean' args s₁) s₁:=by
 have hb:∀a o,B.get? a=some o→s₁.heap.get? a=some o:=fun a o e=>hh▸e;have hcm:claimMargin=300:=by decide
 have gd:=Gd.of_top T TE hm hcB hfree hcl hask hgl;have hd':tb.fn[f]?=some d:=by exact O (List.getElem?_append_left (by refine O (of_decide_eq_true (Bool.and_eq_true_iff.mp hcB).2).1 ?_;exact hf44)) hd
 refine hidG fun G2 g1=>?_;obtain⟨a,o,pm,code,doc,hm',ho,hdat,hcr⟩:=gd.fn f d hf44 hd';have hm':=hfa▸hm';cases hm';refine g1 ?_;refine codeAny_mono ((call_sound gd (fun f fn d h1 h2=>let ⟨ns,q⟩:=fnsB_ok hall hbd f fn d h1 h2;⟨ns,snN,Nat.zero_add f▸q⟩) n) f _ _ _ h d hd' none fa (⟨⟨fun j0_=>hf44,fun j0_=>rfl⟩,(fun j0_ j1_ j2_ q=>nos q),o,d.name,pm,code,doc,ho,hdat,hcr⟩) callerA (fun j0_=>False) (fun j0_=>none) (fun a=> ∃o,s₁.heap.get? a=some o) s₁ [.ref l] ?_ ?_ rfl ⟨[],rfl,fun j0_ h=>by exact(List.not_mem_nil h).elim⟩ ⟨hb,fun a o e=>⟨o,hb a o e⟩,fun j0_ j1_=>rfl,fun j0_ j1_ f=>f,fun j0_ j1_ f=>f,fun j0_ z=>z,fun j0_ z=>absurd rfl z,fun j0_ f=>f.elim⟩ (fun j0_ j1_ j2_ q=>nos q) ⟨rfl,fun j0_ j1_ j2_ j3_ q=>nos q,fun k sl v e1 e2=>?_⟩) fun r s' p=>?_
 .exact(Ln [claimMargin,n] (.w (.a (.a (.c 1) .x)<|.m 2 .y)<|.c 999) [(2,.w .y<|.c 340),Ge .x<|.c 300] rfl hn hcm)
 .exact(Ln [n] (.w (.a (.c 4)<|.m 8 .x)<|.c 4000) [(8,.w .x<|.c 340)] rfl hn)
 .cases k with
  | zero=>refine O (sos e1).symm ?_;refine O (sos e2).symm ?_;refine⟨(fun q=>by exact Slot.noConfusion q),?_⟩;refine hidG fun G1 g=>?_;cases W with
   | @list _ vs ws hget hall=>exact g<|.list ⟨_,hget⟩ hget (by refine O ((ints_rep (Z:=fun j0_=>True) hall).length) ?_;rw[List.length_map];exact hlen)<|ints_rep hall
  | succ k=>exact nos e2
 .obtain⟨own',Z',G,_,S,_,_,_,⟨rv,v,q,rfl,R⟩ | ⟨nm,a,q,_⟩⟩:=p;rotate_left
  .exact erk q
  obtain rfl:=oki q;refine ex2 S.sh fun h' tk Q=>?_;subst Q;refine GoodW.toG ⟨.inl ⟨v,.bool true,[],rfl,hr,?_,hp,fun j0_=>⟨List.nodup_nil,fun a ha=>by exact(List.not_mem_nil ha).elim⟩⟩,fun a o e=>G.base a o<|hh▸e,rfl,hgen⟩;cases R;exact .bool true
end Mv
end
section
set_option backward.match.sparseCases false
namespace Mv
open PySem PySem.W PyProof.Rows
noncomputable def ask1(K:Frag)(ae:Value)(b:Bool)(g:Option Value) :Bool:=match g with
 | some (.ref D)=>exmOne K (.ref D) ae==some b
 | _=>false
theorem ask1_ok{K:Frag}{B:Heap}{ae:Value}{b:Bool}{D:Addr}(ag:K.In B)(h:ask1 K ae b (some<|.ref D)=true) :Asked B D ae b:=by
 intro prog w A E s a o hB ha hc Q q;have I:InstAt s.heap a o D none:=⟨ha,hc.1,by obtain⟨_,_,vs,hd⟩:=hc;obtain⟨c,o⟩:=o;cases hd;rfl,by refine O hc.2.1 ?_;trivial⟩
 exact exm_one (ag.keeps hB) I.type (beq_iff_eq.mp h) A Q E s (fun j0_ j1_ e=>e) q
noncomputable def glOf(K:Frag)(x:Str) :Option Value:=match K.lookup mainGlobals with
 | some ⟨_,_,.dict es _,_⟩=>nsFind es x
 | _=>none
theorem glOf_ok{K:Frag}{h:Heap}{mg:Str→Option Value}(ag:K.In h)(g:h.Ns mainGlobals mg)(hk:(K.lookup mainGlobals).elim false (fun o=>match o.data with | .dict _ _=>true | _=>false)=true)(x:Str) :mg x=glOf K x:=by refine hidG fun G g1=>?_;obtain⟨o,es',ep',ho,hd,_,hf⟩:=g;cases q:K.lookup mainGlobals with
 | none=>rw[q]at hk;exact Bool.noConfusion hk
 | some o'=>have:=ag _ _ q;rw[this]at ho;obtain rfl:=sos ho;obtain⟨c,d,dt,sl⟩:=o';cases hd;refine g1 ?_;unfold glOf;exact O q<|(hf x).symm
noncomputable def entH(K:Frag)(cls hcs:ax)(hb:Str→ax) :Bool:=hcs.all fun c=>(glOf K c).elim false fun ae=>cls.all fun k=>ask1 K ae ((hb c).contains k)<|glOf K k
theorem entH_ok{K:Frag}{B:Heap}{mg:Str→Option Value}{cls hcs:ax}{hb:Str→ax}(ag:K.In B)(hg:∀x,mg x=glOf K x)(h:entH K cls hcs hb=true) :∀c∈hcs, ∃ae,mg c=some ae∧ ∀k∈cls, ∀C,mg k=some (.ref C)→Asked B C ae ((hb c).contains k):=fun c hc=>by have h:=List.all_eq_true.mp h c hc;cases q:glOf K c with
 | none=>rw[q]at h;exact Bool.noConfusion h
 | some ae=>rw[q]at h;refine⟨ae,(hg c).trans q,fun k hk C e=>ask1_ok ag ?_⟩;have:=List.all_eq_true.mp h k hk;rw[← hg,e]at this;exact this
theorem owns_raise{p:Program}{loose:ax}{mean:ExcName→Option Value}{mg mb:Str→Option Value}{h:Heap}(T:Top p loose mean mg mb h){cls:ax}{Bb nid iid:String}{bm:ay}(FB:ExcBaseFacts Bb nid iid bm)
  (hc:(cls.all fun k=>(ownsOf p).any fun o=>decide (o.name=k)&&decide (o.newId=nid)&&(o.bm==bm))=true) :∀k∈cls, ∃C Bb newId initId bm,OwnClsQ k C bm newId mg h∧ExcBaseFacts Bb newId initId bm:=fun k hk=>by
 rw[List.all_eq_true]at hc;refine hidG fun G g=>?_;obtain⟨o,ho,hq⟩:=List.any_eq_true.mp<|hc k hk;simp only[Bool.and_eq_true,decide_eq_true_eq,beq_iff_eq]at hq;obtain⟨⟨rfl,rfl⟩,rfl⟩:=hq;refine ex1 (T.own o ho) fun C q=>?_;exact g<|⟨C,_,_,_,_,q.1,FB⟩
end Mv
end
section
set_option backward.match.sparseCases false
open PySem PySem.W PyProof.Rows Mv
set_option maxHeartbeats 8000000
namespace Lq
theorem chk:fnsB 0 tb.fn P.fns nss=true:=by decide +kernel
theorem chkBd:bL tb.fn P.fns nss=bR tb.fn P.fns nss:=by kernel_rfl
theorem chkF:freeB Hq.view (looseW Hq.view Hq.loose)=true:=by decide +kernel
theorem chkM:∀k,(plainsOf Hq.view<|looseW Hq.view Hq.loose).find? (fun c=>c.name==cName k)=tb.cr k
 | 0=>by kernel_rfl
 | _+1=>by kernel_rfl
theorem chkR:crB=true:=by decide +kernel
theorem chkC:(cls.all fun k=>(ownsOf Hq.view).any fun o=>decide (o.name=k) && decide (o.newId = "ValueError.__new__") && (o.bm == [.type "ValueError",.type "Exception",.type "BaseException",.type "object"]))=true:=by decide +kernel
theorem chkA(P:Params) :entH (Hq.K P) cls hcs tb.hb=true:=by kernel_rfl
theorem kG(P:Params) :((Hq.K P).lookup mainGlobals).elim false (fun o=>match o.data with | .dict _ _=>true | _=>false)=true:=by kernel_rfl
end Lq
end
section
namespace Lq
open PySem Mv
noncomputable abbrev okD(d:D) :Option (aA Rv×List Mv.Slot):=some (.ok<|.fz d,[])
noncomputable abbrev erS(e:Str) :Option (aA Rv×List Mv.Slot):=some (.error e,[])
noncomputable abbrev k_value:Str:=⟨[118,97,108,117,101].toArray⟩
noncomputable abbrev k_name:Str:=⟨[110,97,109,101].toArray⟩
noncomputable abbrev k_refuse:Str:=⟨[114,101,102,117,115,101].toArray⟩
noncomputable abbrev k_if:Str:=⟨[105,102].toArray⟩
noncomputable abbrev k_do:Str:=⟨[100,111].toArray⟩
noncomputable abbrev k_call:Str:=⟨[99,97,108,108].toArray⟩
noncomputable abbrev k_plus:Str:=⟨[112,108,117,115].toArray⟩
noncomputable abbrev k_times:Str:=⟨[116,105,109,101,115].toArray⟩
noncomputable abbrev k_less:Str:=⟨[108,101,115,115].toArray⟩
noncomputable abbrev k_first:Str:=⟨[102,105,114,115,116].toArray⟩
noncomputable abbrev k_rest:Str:=⟨[114,101,115,116].toArray⟩
noncomputable abbrev k_empty:Str:=⟨[101,109,112,116,121].toArray⟩
noncomputable abbrev k_same:Str:=⟨[115,97,109,101].toArray⟩
noncomputable abbrev k_list:Str:=⟨[108,105,115,116].toArray⟩
noncomputable abbrev k_look:Str:=⟨[108,111,111,107].toArray⟩
noncomputable abbrev k_down:Str:=⟨[100,111,119,110].toArray⟩
noncomputable abbrev nam(x:Str) :D:=.tuple [.str k_name,.str x]
noncomputable abbrev val(d:D) :D:=.tuple [.str k_value,d]
noncomputable abbrev ref(x:Str) :D:=.tuple [.str k_refuse,.str x]
noncomputable abbrev doo(op:Str)(ps:aB) :D:=.tuple [.str k_do,.str op,.tuple ps]
noncomputable abbrev iff3(a b c:D) :D:=.tuple [.str k_if,a,b,c]
noncomputable abbrev cal(f:Str)(ps:aB) :D:=.tuple [.str k_call,.str f,.tuple ps]
noncomputable abbrev Env2:=List<|D×D
noncomputable abbrev cf(N:Nat) :Cfg:=⟨P.glob,cF P N,[]⟩
noncomputable abbrev nmS(k:Nat) :Str:=⟨(102::natS k).toArray⟩
noncomputable def digV:aw→Nat→Nat
 | [],a=>a
 | d::X,a=>digV X<|10*a+(d - 48)
theorem dig_ok:(List.range 400).all (fun k=>decide ((natS k).length≤10)&&(digV (natS k) 0==k))=true:=by kernel_rfl
theorem nm_ne{i j:Nat}(h:i≠j)(hi:i<400)(hj:j<400) :nmS i≠nmS j:=fun e=>by
 have e:natS i=natS j:=by injection e with e;exact(List.cons.inj<|congrArg Array.toList e).2
 have a:=beq_iff_eq.mp (Bool.and_eq_true_iff.mp<|List.all_eq_true.mp dig_ok i<|List.mem_range.mpr hi).2;have b:=beq_iff_eq.mp (Bool.and_eq_true_iff.mp<|List.all_eq_true.mp dig_ok j<|List.mem_range.mpr hj).2;exact h<|a.symm.trans<|(congrArg (digV · 0) e).trans b
structure StrK(k:Nat) :Prop where
 str:biD .str [.int (k:Nat)]=some (.fz<|.str ⟨(natS k).toArray⟩)
 add:op2 .add (S [102]) (.str ⟨(natS k).toArray⟩)=some (.fz<|.str<|nmS k)
theorem strK{k:Nat}(h:k<400) :StrK k:=by
 have:=of_decide_eq_true (Bool.and_eq_true_iff.mp<|List.all_eq_true.mp dig_ok k<|List.mem_range.mpr h).1;refine⟨if_pos ⟨Nat.lt_of_lt_of_le h (by decide),Nat.le_trans this (by decide)⟩,?_⟩;show(if 1+(natS k).toArray.size≤Sz then some (Rv.fz<|.str ⟨#[102]++(natS k).toArray⟩) else none)=_
 rw[if_pos (by rw[List.size_toArray];show 1+(natS k).length≤16777216;exact(lin [(natS k).length] [] 1 (.nle (.a (.c 1)<|.v 0)<|.c 16777216) [(1,.nle (.v 0)<|.c 10)] rfl this))];show some (Rv.fz<|.str ⟨#[102]++(natS k).toArray⟩)=some (.fz<|.str ⟨(102::natS k).toArray⟩)
 rw[show #[102]++(natS k).toArray=(102::natS k).toArray by simp]
noncomputable def tabE:Nat→aB→Env2
 | _,[]=>[]
 | k,e::es=>(e,.int k)::tabE (k+1) es
theorem tabE_len:∀(es:aB)(k:Nat),(tabE k es).length=es.length:=by intro es;induction es with
 | nil=>intro _;rfl
 | cons e es ih=>intro k;exact congrArg (· + 1)<|ih<|k+1
theorem tabE_app(e:D) :∀(es:aB)(k:Nat),tabE k (es++[e])=tabE k es++[(e,.int (k+es.length:Nat))]:=by intro es;induction es with
 | nil=>intro k;rfl
 | cons x es ih=>
  intro k;show _::tabE (k+1) (es++[e])=_::(tabE (k+1) es++_)
  rw[ih,show k+1+es.length=k+(es.length+1) from Nat.succ_add_eq_add_succ k es.length];rfl
theorem tabE_none{e:D} :∀{es:aB}{k:Nat},(∀x∈es,PyData.eqv x e=false)→tabGet e (tabE k es)=none:=by intro es;induction es with
 | nil=>intro k _;rfl
 | cons x es ih=>
  intro k h;show(if PyData.eqv x e=true then some (.int k) else tabGet e (tabE (k+1) es))=none
  rw[h x List.mem_cons_self,if_neg Bool.false_ne_true];exact ih fun y hy=>h y<|List.mem_cons_of_mem _ hy
theorem tabE_last{e:D}(hs:PyData.eqv e e=true) :∀{es:aB}{k:Nat},(∀x∈es,PyData.eqv x e=false)→tabGet e (tabE k<|es++[e])=some (.int (k+es.length:Nat)):=by intro es;induction es with
 | nil=>intro k _;show(if PyData.eqv e e=true then some (PyData.int k) else none)=_;rw[if_pos hs];rfl
 | cons x es ih=>
  intro k h;show(if PyData.eqv x e=true then some (.int k) else tabGet e (tabE (k+1)<|es++[e]))=_
  rw[h x List.mem_cons_self,if_neg Bool.false_ne_true,ih fun y hy=>h y<|List.mem_cons_of_mem _ hy,Nat.succ_add_eq_add_succ];rfl
noncomputable abbrev mkS(fd sd:Env2)(es:aB) :List Mv.Slot:=[.ai<|.dict fd,.fz<|.dict sd,.ai<|.list es,.tab<|tabE 0 es,.no,.no,.no,.no]
noncomputable abbrev okM(fd sd:Env2)(es:aB)(r:D) :Option (aA Rv×List Mv.Slot):=some (.ok<|.fz r,mkS fd sd es)
theorem name_new(n:Nat)(fd sd:Env2)(es:aB)(f:Str)(kn:aB)(hk:es.length<399)(ko:keyOk (.tuple [.str f,.tuple kn])=true)(hs:PyData.eqv (.tuple [.str f,.tuple kn]) (.tuple [.str f,.tuple kn])=true)(hn:∀x∈es,PyData.eqv x (.tuple [.str f,.tuple kn])=false) :
  cF P (n+1) 28 (mkS fd sd es++[.fz<|.str f,.fz<|.tuple kn])=okM fd sd (es++[.tuple [.str f,.tuple kn]]) (.str<|nmS es.length):=by
 have tn:=tabE_none (k:=0) hn;have h2:(tabGet (.tuple [.str f,.tuple kn])<|tabE 0 es).isNone=true:=by rw[tn];rfl
 have h5:decide (keyOk (.tuple [.str f,.tuple kn])=true∧tabGet (.tuple [.str f,.tuple kn]) (tabE 0 es)=none∧(tabE 0 es).length<Sz)=true:=decide_eq_true ⟨ko,tn,by rw[tabE_len];show es.length<16777216;exact(lin [es.length] [] 1 (.nle (.a (.v 0)<|.c 1)<|.c 16777216) [(1,.nle (.a (.v 0)<|.c 1)<|.c 399)] rfl hk)⟩;have h6:decide (es.length<Sz)=true:=decide_eq_true (by show es.length<16777216;exact(lin [es.length] [] 1 (.nle (.a (.v 0)<|.c 1)<|.c 16777216) [(1,.nle (.a (.v 0)<|.c 1)<|.c 399)] rfl hk));have h1:tabGet (.tuple [.str f,.tuple kn]) (tabE 0 es++[(.tuple [.str f,.tuple kn],.int (es.length:Nat))])=some (.int es.length):=by have:=tabE_last hs (k:=0) hn;rw[tabE_app,Nat.zero_add]at this;exact this
 have h7:biD .len [.list es]=some (.fz<|.int (es.length:Nat)):=rfl;obtain⟨h3,h4⟩:=strK (k:=es.length) (by exact(lin [es.length] [] 1 (.nle (.a (.v 0)<|.c 1)<|.c 400) [(1,.nle (.a (.v 0)<|.c 1)<|.c 399)] rfl hk));have e2:tabE 0 (es++[.tuple [.str f,.tuple kn]])=tabE 0 es++[(.tuple [.str f,.tuple kn],.int (es.length:Nat))]:=by rw[tabE_app,Nat.zero_add]
 show _=some (Except.ok<|Rv.fz<|.str<|nmS es.length,([.ai<|.dict fd,.fz<|.dict sd,.ai<|.list<|es++[.tuple [.str f,.tuple kn]],.tab<|tabE 0<|es++[.tuple [.str f,.tuple kn]],.no,.no,.no,.no] :List Mv.Slot))
 rw[e2];exact wkF [.t 0<|ko,.t 0<|h2,.v 1<|h7,.t 0<|h5,.t 0<|h6,.t 0<|ko,.d 0<|h1,.v 0<|h3,.v 0<|h4] rfl (by kernel_rfl)
theorem name_0(n:Nat)(fd sd:Env2)(es:aB)(f:Str)(kn:aB)(he:es=[.tuple [.str f,.tuple kn]])(ko:keyOk (.tuple [.str f,.tuple kn])=true)(hs:PyData.eqv (.tuple [.str f,.tuple kn]) (.tuple [.str f,.tuple kn])=true) :
  cF P (n+1) 28 (mkS fd sd es++[.fz<|.str f,.fz<|.tuple kn])=okM fd sd es (.str<|nmS 0):=by
 have h1:tabGet (.tuple [.str f,.tuple kn]) (tabE 0 es)=some (.int (0:Nat)):=by rw[he];exact tabE_last hs (es:=[]) (k:=0) fun j0_ h=>nomatch h
 have h2:(tabGet (.tuple [.str f,.tuple kn])<|tabE 0 es).isNone=false:=by rw[h1];rfl
 obtain⟨h3,h4⟩:=strK (k:=0) (by decide);clear he;exact wkF [.t 0<|ko,.t 0<|h2,.t 1<|ko,.d 0<|h1,.v 0<|h3,.v 0<|h4] rfl (by kernel_rfl)
end Lq
end
section
namespace Lq
open PySem Mv
noncomputable abbrev Gt:Int:=1000000000000000000
noncomputable def fitB(x:Int) :Bool:=decide (-Gt<x)&&decide (x<Gt)
theorem ltI(a b:Int) :cmpD .lt (.int a) (.int b)=some (decide<|a<b):=rfl
theorem fit_y(n:Nat)(x:Int)(h:fitB x=true) :cF P (n+4) 3 [.fz<|.int x]=okD (.int x):=by
 have h:=Bool.and_eq_true_iff.mp h;have h1:cmpD .lt (.int<|-Gt) (.int x)=some true:=by rw[ltI,h.1]
 have h2:cmpD .lt (.int x) (.int Gt)=some true:=by rw[ltI,h.2]
 have r:cF P (n+2) 0 [.fz<|.int x,.fz<|.int 50]=okD (.int 49):=by exact wkF [.b 10<|h1,.b 1<|h2] rfl (by kernel_rfl)
 have v:cF P (n+3) 1 [.fz<|.int x]=okD (.bool true):=by exact wkF [.c 0<|r] rfl (by kernel_rfl)
 exact wkF [.c 0<|v] rfl (by kernel_rfl)
theorem fit_n(n:Nat)(x:Int)(h:fitB x=false) :cF P (n+4) 3 [.fz<|.int x]=erS x_TooGreat:=by
 have r:cF P (n+2) 0 [.fz<|.int x,.fz<|.int 50]=okD (.int<|-1):=by cases h1:decide (-Gt<x) with
  | false=>
   have h1:cmpD .lt (.int<|-Gt) (.int x)=some false:=by rw[ltI,h1]
   exact wkF [.b 10<|h1] rfl (by kernel_rfl)
  | true=>
   have h2:cmpD .lt (.int x) (.int Gt)=some false:=by rw[ltI];unfold fitB at h;rw[h1]at h;exact congrArg some h
   have h1:cmpD .lt (.int<|-Gt) (.int x)=some true:=by rw[ltI,h1]
   exact wkF [.b 10<|h1,.b 1<|h2] rfl (by kernel_rfl)
 have v:cF P (n+3) 1 [.fz<|.int x]=okD (.bool false):=by exact wkF [.c 0<|r] rfl (by kernel_rfl)
 exact wkF [.c 0<|v] rfl (by kernel_rfl)
theorem fit_abs{x:Int}(h:fitB x=true) :x.natAbs<2 ^ 64:=by have h:=Bool.and_eq_true_iff.mp h;have h1: -1000000000000000000<x:=of_decide_eq_true h.1;have h2:x<1000000000000000000:=of_decide_eq_true h.2;omega
noncomputable abbrev dnA(op:Str)(a b:Int) :List Mv.Slot:=[.fz<|.str op,.fz<|.list [.int a,.int b]]
section
variable (n:Nat)(a b:Int)
theorem plus_y(h:fitB (a+b)=true) :cF P (n+5) 8 (dnA k_plus a b)=okD (.int<|a+b):=by have f:=fit_y n _ h;exact wkF [.c 13<|f] rfl (by kernel_rfl)
theorem plus_n(h:fitB (a+b)=false) :cF P (n+5) 8 (dnA k_plus a b)=erS x_TooGreat:=by have f:=fit_n n _ h;exact wkF [.c 13<|f] rfl (by kernel_rfl)
theorem mul_at(ha:fitB a=true) :op2 .mul (.int a) (.int b)=some (.fz<|.int<|a*b):=by
 show mulI a b=_
 unfold mulI mulOk;rw[decide_eq_true<|fit_abs ha];rfl
theorem times_n4(ha:fitB a=true) :cF P (n+1) 4 [.fz<|.str k_times,.fz<|.int a,.fz<|.int b]=okD (.int<|a*b):=by have e:=mul_at a b ha;exact wkF [.v 10<|e] rfl (by kernel_rfl)
theorem times_y(ha:fitB a=true)(h:fitB (a*b)=true) :cF P (n+5) 8 (dnA k_times a b)=okD (.int<|a*b):=by have e:=times_n4 (n+3) a b ha;have f:=fit_y n _ h;exact wkF [.c 12<|e,.c 0<|f] rfl (by kernel_rfl)
theorem times_n(ha:fitB a=true)(h:fitB (a*b)=false) :cF P (n+5) 8 (dnA k_times a b)=erS x_TooGreat:=by have e:=times_n4 (n+3) a b ha;have f:=fit_n n _ h;exact wkF [.c 12<|e,.c 0<|f] rfl (by kernel_rfl)
theorem less_y(h:a<b) :cF P (n+5) 8 (dnA k_less a b)=okD (.int 1):=by
 have q:cmpD .lt (.int a) (.int b)=some true:=by rw[ltI,decide_eq_true h]
 have e:cF P (n+4) 4 [.fz<|.str k_less,.fz<|.int a,.fz<|.int b]=okD (.int 1):=by exact wkF [.b 12<|q] rfl (by kernel_rfl)
 have f:=fit_y n 1 (by decide);exact wkF [.c 12<|e,.c 0<|f] rfl (by kernel_rfl)
theorem less_n(h:¬a<b) :cF P (n+5) 8 (dnA k_less a b)=okD (.int 0):=by
 have q:cmpD .lt (.int a) (.int b)=some false:=by rw[ltI,decide_eq_false h]
 have e:cF P (n+4) 4 [.fz<|.str k_less,.fz<|.int a,.fz<|.int b]=okD (.int 0):=by exact wkF [.b 12<|q] rfl (by kernel_rfl)
 have f:=fit_y n 0 (by decide);exact wkF [.c 12<|e,.c 0<|f] rfl (by kernel_rfl)
theorem down_y(h:¬a<1) :cF P (n+5) 8 [.fz<|.str k_down,.fz<|.list [.int a]]=okD (.int<|a - 1):=by
 have q:cmpD .lt (.int a) (.int 1)=some false:=by rw[ltI,decide_eq_false h]
 have e:cF P (n+4) 5 [.fz<|.int a]=okD (.int<|a - 1):=by exact wkF [.b 2<|q] rfl (by kernel_rfl)
 exact wkF [.c 5<|e] rfl (by kernel_rfl)
end
end Lq
end
section
namespace Lq
open PySem Mv
section
variable (fd sd:Env2)
noncomputable abbrev LAt(n:Nat)(es:aB)(h e r:D)(es':aB) :Prop:=cF P n 32 (mkS fd sd es++[.fz e,.fz h])=okM fd sd es' r
variable {fd sd}{n:Nat}{es es' es2:aB}{h t a b r r2:D}
theorem la(x:cF P n 32 (mkS fd sd es++[.fz a,.fz h])=okM fd sd es' r) :LAt fd sd n es h a r es':=x
theorem if_of(e:cF P (n+2) 31 (mkS fd sd es++[.fz<|iff3 t a b,.fz h])=okM fd sd es' r) :LAt fd sd (n+3) es h (iff3 t a b) r es':=by refine la ?_;exact wkF [.c 9<|e] rfl (by kernel_rfl)
theorem do_of{f:Str}{ps:aB}(e:cF P (n+2) 29 (mkS fd sd es++[.fz<|.str f,.fz<|.tuple ps,.fz h])=okM fd sd es' r) :LAt fd sd (n+3) es h (doo f ps) r es':=by refine la ?_;exact wkF [.c 13<|e] rfl (by kernel_rfl)
theorem call_of{f:Str}{ps:aB}(e:cF P (n+2) 30 (mkS fd sd es++[.fz<|.str f,.fz<|.tuple ps,.fz h])=okM fd sd es' r) :LAt fd sd (n+3) es h (cal f ps) r es':=by refine la ?_;exact wkF [.c 13<|e] rfl (by kernel_rfl)
theorem if_y{v:Int}(hz:v≠0)(ht:LAt fd sd (n+1) es h t (val<|.int v) es)(ha:LAt fd sd (n+1) es h a r es') :LAt fd sd (n+3) es h (iff3 t a b) r es':=by
 refine if_of ?_;have z:cmpD .eq (.int v) (.int 0)=some false:=by rw[c_eqi];exact congrArg some<|beq_eq_false_iff_ne.mpr hz
 exact wkF [.c 1<|ht,.b 10<|z,.c 2<|ha] rfl (by kernel_rfl)
theorem if_n(ht:LAt fd sd (n+1) es h t (val<|.int 0) es)(ha:LAt fd sd (n+1) es h b r es') :LAt fd sd (n+3) es h (iff3 t a b) r es':=by refine if_of ?_;exact wkF [.c 1<|ht,.c 13<|ha] rfl (by kernel_rfl)
theorem if_opn{x:Str}(ht:LAt fd sd (n+1) es h t (nam x) es)(ha:LAt fd sd (n+1) es h a r es')(hb:LAt fd sd (n+1) es' h b r2 es2) :LAt fd sd (n+3) es h (iff3 t a b) (iff3 (nam x) r r2) es2:=by refine if_of ?_;exact wkF [.c 1<|ht,.c 7<|ha,.c 1<|hb] rfl (by kernel_rfl)
theorem l_nk{x:Str}{v:D}(q:inD (.str x) h=some true)(i:idxD h (.str x)=some v) :LAt fd sd (n+1) es h (nam x) (val v) es:=by refine la ?_;have q:cmpD .isin (.str x) h=some true:=q;exact wkF [.b 8<|q,.d 2<|i] rfl (by kernel_rfl)
theorem l_nu{x:Str}(q:inD (.str x) h=some false) :LAt fd sd (n+1) es h (nam x) (nam x) es:=by refine la ?_;have q:cmpD .isin (.str x) h=some false:=q;exact wkF [.b 8<|q] rfl (by kernel_rfl)
theorem l_v{v:D} :LAt fd sd (n+1) es h (val v) (val v) es:=by refine la ?_;exact wkF [] rfl (by kernel_rfl)
theorem do1_v{op:Str}{d v:D}(he:LAt fd sd (n+1) es h a (val d) es)(w:cF P (n+1) 12 [.fz<|.str op,.fz<|.list [d]]=okD (val v)) :LAt fd sd (n+3) es h (doo op [a]) (val v) es:=by refine do_of ?_;exact wkF [.c 2<|he,.c 14<|w] rfl (by kernel_rfl)
theorem do1_n{op:Str}{x:Str}(he:LAt fd sd (n+1) es h a (nam x) es) :LAt fd sd (n+3) es h (doo op [a]) (doo op [nam x]) es:=by refine do_of ?_;exact wkF [.c 2<|he] rfl (by kernel_rfl)
theorem do_nc{op x f:Str}{ps:aB}(h1:LAt fd sd (n+1) es h a (nam x) es)(h2:LAt fd sd (n+1) es h b (cal f ps) es') :LAt fd sd (n+3) es h (doo op [a,b]) (doo op [nam x,cal f ps]) es':=by refine do_of ?_;exact wkF [.c 2<|h1,.c 9<|h2] rfl (by kernel_rfl)
theorem do_vc{op f:Str}{v:D}{ps:aB}(h1:LAt fd sd (n+1) es h a (val v) es)(h2:LAt fd sd (n+1) es h b (cal f ps) es') :LAt fd sd (n+3) es h (doo op [a,b]) (doo op [val v,cal f ps]) es':=by refine do_of ?_;exact wkF [.c 2<|h1,.c 9<|h2] rfl (by kernel_rfl)
theorem do_nn{op x y:Str}(h1:LAt fd sd (n+1) es h a (nam x) es)(h2:LAt fd sd (n+1) es h b (nam y) es) :LAt fd sd (n+3) es h (doo op [a,b]) (doo op [nam x,nam y]) es:=by refine do_of ?_;exact wkF [.c 2<|h1,.c 9<|h2] rfl (by kernel_rfl)
theorem do_dv{op q:Str}{ps:aB}{v:D}(h1:LAt fd sd (n+1) es h a (doo q ps) es)(h2:LAt fd sd (n+1) es h b (val v) es) :LAt fd sd (n+3) es h (doo op [a,b]) (doo op [doo q ps,val v]) es:=by refine do_of ?_;exact wkF [.c 2<|h1,.c 9<|h2] rfl (by kernel_rfl)
variable {f:Str}{v:D}{nm:Str}{e:D}
theorem c_tf{x:Str}(s:idxD (.dict sd) (.str f)=some (.tuple [.bool true,.bool false]))(h1:LAt fd sd (n+1) es h a (val v) es)(h2:LAt fd sd (n+1) es h b (nam x) es)(N:cF P (n+1) 28 (mkS fd sd es++[.fz<|.str f,.fz<|.tuple [v]])=okM fd sd es' (.str nm)) :LAt fd sd (n+3) es h (cal f [a,b]) (cal nm [nam x]) es':=by refine call_of ?_;exact wkF [.d 0<|s,.c 2<|h1,.c 12<|h2,.c 13<|N] rfl (by kernel_rfl)
theorem c_tff{x q:Str}{ps:aB}(s:idxD (.dict sd) (.str f)=some (.tuple [.bool true,.bool false,.bool false]))(h1:LAt fd sd (n+1) es h a (val v) es)(h2:LAt fd sd (n+1) es h b (doo q ps) es)(h3:LAt fd sd (n+1) es h e (nam x) es)(N:cF P (n+1) 28 (mkS fd sd es++[.fz<|.str f,.fz<|.tuple [v]])=okM fd sd es' (.str nm)) :LAt fd sd (n+3) es h (cal f [a,b,e]) (cal nm [doo q ps,nam x]) es':=by refine call_of ?_;exact wkF [.d 0<|s,.c 2<|h1,.c 12<|h2,.c 12<|h3,.c 11<|N] rfl (by kernel_rfl)
theorem c_t(s:idxD (.dict sd) (.str f)=some (.tuple [.bool true]))(h1:LAt fd sd (n+1) es h a (val v) es)(N:cF P (n+1) 28 (mkS fd sd es++[.fz<|.str f,.fz<|.tuple [v]])=okM fd sd es' (.str nm)) :LAt fd sd (n+3) es h (cal f [a]) (cal nm []) es':=by refine call_of ?_;exact wkF [.d 0<|s,.c 2<|h1,.c 13<|N] rfl (by kernel_rfl)
theorem c_f{q:Str}{ps:aB}(s:idxD (.dict sd) (.str f)=some (.tuple [.bool false]))(h1:LAt fd sd (n+1) es h a (doo q ps) es)(N:cF P (n+1) 28 (mkS fd sd es++[.fz<|.str f,.fz<|.tuple []])=okM fd sd es' (.str nm)) :LAt fd sd (n+3) es h (cal f [a]) (cal nm [doo q ps]) es':=by refine call_of ?_;exact wkF [.d 0<|s,.c 2<|h1,.c 13<|N] rfl (by kernel_rfl)
end
section
variable (n:Nat)
theorem wo_down(v:Int)(h:¬v<1) :cF P (n+6) 12 [.fz<|.str k_down,.fz<|.list [.int v]]=okD (val<|.int<|v - 1):=by have d:=down_y n v h;exact wkF [.c 0<|d] rfl (by kernel_rfl)
theorem wo_first(d:D)(X:aB) :cF P (n+4) 12 [.fz<|.str k_first,.fz<|.list [.tuple (d::X)]]=okD (val d):=by
 have h:cmpD .eq (.int ((d::X).length:Nat)) (.int 0)=some false:=by rw[c_eqi];exact congrArg some<|beq_eq_false_iff_ne.mpr fun e=>nomatch (Int.ofNat.inj e)
 have q:cF P (n+2) 6 [.fz<|.str k_first,.fz<|.tuple (d::X)]=okD d:=by exact wkF [] rfl (by kernel_rfl)
 have e:cF P (n+3) 8 [.fz<|.str k_first,.fz<|.list [.tuple (d::X)]]=okD d:=by exact wkF [.c 7<|q] rfl (by kernel_rfl)
 exact wkF [.c 0<|e] rfl (by kernel_rfl)
theorem wo_rest(d:D)(X:aB) :cF P (n+4) 12 [.fz<|.str k_rest,.fz<|.list [.tuple (d::X)]]=okD (val<|.tuple X):=by
 have h:cmpD .eq (.int ((d::X).length:Nat)) (.int 0)=some false:=by rw[c_eqi];exact congrArg some<|beq_eq_false_iff_ne.mpr fun e=>nomatch (Int.ofNat.inj e)
 have q:cF P (n+2) 6 [.fz<|.str k_rest,.fz<|.tuple (d::X)]=okD (.tuple X):=by exact wkF [] rfl (by kernel_rfl)
 have e:cF P (n+3) 8 [.fz<|.str k_rest,.fz<|.list [.tuple (d::X)]]=okD (.tuple X):=by exact wkF [.c 7<|q] rfl (by kernel_rfl)
 exact wkF [.c 0<|e] rfl (by kernel_rfl)
theorem wo_empty0:cF P (n+4) 12 [.fz<|.str k_empty,.fz<|.list [.tuple []]]=okD (val<|.int 1):=by exact wkF [] rfl (by kernel_rfl)
theorem wo_empty1(d:D)(X:aB) :cF P (n+4) 12 [.fz<|.str k_empty,.fz<|.list [.tuple (d::X)]]=okD (val<|.int 0):=by
 have h:cmpD .eq (.int ((d::X).length:Nat)) (.int 0)=some false:=by rw[c_eqi];exact congrArg some<|beq_eq_false_iff_ne.mpr fun e=>nomatch (Int.ofNat.inj e)
 have q:cF P (n+2) 6 [.fz<|.str k_empty,.fz<|.tuple (d::X)]=okD (.int 0):=by exact wkF [] rfl (by kernel_rfl)
 have e:cF P (n+3) 8 [.fz<|.str k_empty,.fz<|.list [.tuple (d::X)]]=okD (.int 0):=by exact wkF [.c 7<|q] rfl (by kernel_rfl)
 exact wkF [.c 0<|e] rfl (by kernel_rfl)
end
end Lq
end
section
namespace Lq
open PySem Mv
noncomputable abbrev wT:Ex:=.cmp .lt (.bi .len [(.pl<|.var 3)])<|.bi .len [(.pl<|.var 9)]
noncomputable abbrev wB:List St:=[.app (.var 3)<|.mcall 33 [7,8,9,10,11,12,13,14] [(.bi .len [(.pl<|.var 3)])]]
section
variable (f:Str)(ps body ws oth:D)(kn:Nat→aB)(R:Nat→D)(m:Nat)
noncomputable abbrev prg:D:=.tuple [.tuple [.str f,ps,body]]
noncomputable abbrev fdC:Env2:=[(.str f,.tuple [ps,body])]
noncomputable abbrev sdC:Env2:=[(.str f,ws)]
noncomputable abbrev enC(i:Nat) :D:=.tuple [.str f,.tuple<|kn i]
noncomputable def esN(k:Nat) :aB:=(List.range k).map<|enC f kn
noncomputable def fsN(k:Nat) :aB:=(List.range k).map fun i=>.tuple [.str<|nmS i,oth,R i]
noncomputable def trN(k:Nat) :aB:=(List.range k).map fun i=>.tuple [.str<|nmS i,.str f,.tuple<|kn i]
theorem es_len(k:Nat) :(esN f kn k).length=k:=by unfold esN;rw[List.length_map,List.length_range]
theorem fs_len(k:Nat) :(fsN oth R k).length=k:=by unfold fsN;rw[List.length_map,List.length_range]
theorem es_succ(k:Nat) :esN f kn (k+1)=esN f kn k++[enC f kn k]:=by unfold esN;rw[List.range_succ,List.map_append];rfl
theorem fs_succ(k:Nat) :fsN oth R (k+1)=fsN oth R k++[.tuple [.str<|nmS k,oth,R k]]:=by unfold fsN;rw[List.range_succ,List.map_append];rfl
noncomputable abbrev mkC(es:aB) :List Mv.Slot:=mkS (fdC f ps body) (sdC f ws) es
noncomputable abbrev wF(ky:D)(es fs:aB) :List Mv.Slot:=[.fz<|prg f ps body,.fz<|.dict<|sdC f ws,.fz ky,.ai<|.list fs,.no,.no,.no]++mkC f ps body ws es
theorem w_done(N j:Nat)(ky:D)(es fs:aB)(h:fs.length=es.length) :whB (cf N) (wF f ps body ws ky es fs) wT wB [] (j+1)=some (.ok .next,wF f ps body ws ky es fs):=by
 have q:cmpD .lt (.int fs.length) (.int es.length)=some false:=by rw[ltI,h];exact congrArg some<|decide_eq_false<|Int.lt_irrefl _
 exact wkW [.b 2<|q] rfl (by kernel_rfl)
theorem w_step(N j:Nat)(ky:D)(es es' fs:aB)(g:D)(h:fs.length<es.length)(hz:fs.length<400)(H:cF P N 33 (mkC f ps body ws es++[.fz<|.int fs.length])=okM (fdC f ps body) (sdC f ws) es' g)(Q:Out Ctl)(hR:∃x,Q=some x)(g':whB (cf N) (wF f ps body ws ky es'<|fs++[g]) wT wB [] j=Q) :
  whB (cf N) (wF f ps body ws ky es fs) wT wB [] (j+1)=Q:=by
 have q:cmpD .lt (.int fs.length) (.int es.length)=some true:=by rw[ltI];exact congrArg some<|decide_eq_true<|Int.ofNat_lt.mpr h
 have z:decide (fs.length<Sz)=true:=decide_eq_true<|Nat.lt_trans hz (by decide);obtain⟨x,rfl⟩:=hR;exact wkW [.b 2<|q,.c 2<|H,.t 0<|z,.lp 0<|g'] rfl (by kernel_rfl)
variable {f ps body ws oth kn R m}
theorem w_all(N:Nat)(ky:D)(hm:m<399)(hf:∀i,i≤m→cF P N 33 (mkC f ps body ws (esN f kn<|i+1)++[.fz<|.int i])=okM (fdC f ps body) (sdC f ws) (esN f kn (if i<m then i+2 else i+1)) (.tuple [.str<|nmS i,oth,R i])) :
  ∀(d k j:Nat),k+d=m→d+2≤j→whB (cf N) (wF f ps body ws ky (esN f kn<|k+1)<|fsN oth R k) wT wB [] j=some (.ok .next,wF f ps body ws ky (esN f kn<|m+1)<|fsN oth R<|m+1):=by
 intro d;induction d with
 | zero=>
  intro k j hk hj;obtain rfl:k=m:=hk;obtain⟨j,rfl⟩ :∃i,j=i+1+1:=⟨j - 2,by exact(Nat.le_antisymm (lin [j,j - (2:Nat)] [] 1 (.nle (.v 0)<|.a (.a (.v 1)<|.c 1)<|.c 1) [(-1,.neq (.a (.v 1)<|.c 2)<|.v 0)] rfl<|Nat.sub_add_cancel (n:=j) (m:=(2:Nat)) hj)<|lin [j - (2:Nat),j] [] 1 (.nle (.a (.a (.v 0)<|.c 1)<|.c 1)<|.v 1) [(1,.neq (.a (.v 0)<|.c 2)<|.v 1)] rfl<|Nat.sub_add_cancel (n:=j) (m:=(2:Nat)) hj)⟩
  have H:=hf k<|Nat.le_refl _;rw[if_neg<|Nat.lt_irrefl _]at H;refine w_step f ps body ws N _ ky _ _ _ _ (by rw[fs_len,es_len];exact Nat.lt_succ_self _) (by rw[fs_len];exact(lin [k] [] 1 (.nle (.a (.v 0)<|.c 1)<|.c 400) [(1,.nle (.a (.v 0)<|.c 1)<|.c 399)] rfl hm)) (by rw[fs_len];exact H) _ ⟨_,rfl⟩ ?_;rw[← fs_succ];exact w_done f ps body ws N _ ky _ _ (by rw[fs_len,es_len])
 | succ d ih=>
  intro k j hk hj;obtain⟨j,rfl⟩ :∃i,j=i+1:=⟨j - 1,by exact(Nat.le_antisymm (lin [j,j - (1:Nat)] [] 1 (.nle (.v 0)<|.a (.v 1)<|.c 1) [(-1,.neq (.a (.v 1)<|.c 1)<|.v 0)] rfl<|Nat.sub_add_cancel (n:=j) (m:=(1:Nat))<|lin [j,d] [] 1 (.nle (.c 1)<|.v 0) [(1,.nle (.a (.a (.v 1)<|.c 1)<|.c 2)<|.v 0)] rfl hj)<|lin [j - (1:Nat),j] [] 1 (.nle (.a (.v 0)<|.c 1)<|.v 1) [(1,.neq (.a (.v 0)<|.c 1)<|.v 1)] rfl<|Nat.sub_add_cancel (n:=j) (m:=(1:Nat))<|lin [j,d] [] 1 (.nle (.c 1)<|.v 0) [(1,.nle (.a (.a (.v 1)<|.c 1)<|.c 2)<|.v 0)] rfl hj)⟩
  have H:=hf k (by exact(lin [k,m,d] [] 1 (.nle (.v 0)<|.v 1) [(1,.neq (.a (.v 0)<|.a (.v 2)<|.c 1)<|.v 1)] rfl hk));rw[if_pos (show k<m by exact(lin [k,m,d] [] 1 (.nle (.a (.v 0)<|.c 1)<|.v 1) [(1,.neq (.a (.v 0)<|.a (.v 2)<|.c 1)<|.v 1)] rfl hk))]at H;refine w_step f ps body ws N _ ky _ _ _ _ (by rw[fs_len,es_len];exact Nat.lt_succ_self _) (by rw[fs_len];exact(lin [k,m,d] [] 1 (.nle (.a (.v 0)<|.c 1)<|.c 400) [(1,.nle (.a (.v 1)<|.c 1)<|.c 399),(1,.neq (.a (.v 0)<|.a (.v 2)<|.c 1)<|.v 1)] rfl hm hk)) (by rw[fs_len];exact H) _ ⟨_,rfl⟩ ?_;rw[← fs_succ];exact ih (k+1) j (by exact(Nat.le_antisymm (lin [k,d,m] [] 1 (.nle (.a (.a (.v 0)<|.c 1)<|.v 1)<|.v 2) [(1,.neq (.a (.v 0)<|.a (.v 1)<|.c 1)<|.v 2)] rfl hk)<|lin [m,k,d] [] 1 (.nle (.v 0)<|.a (.a (.v 1)<|.c 1)<|.v 2) [(-1,.neq (.a (.v 1)<|.a (.v 2)<|.c 1)<|.v 0)] rfl hk)) (by exact(lin [d,j] [] 1 (.nle (.a (.v 0)<|.c 2)<|.v 1) [(1,.nle (.a (.a (.v 0)<|.c 1)<|.c 2)<|.a (.v 1)<|.c 1)] rfl hj))
noncomputable abbrev tB:List St:=[.app (.var 4)<|.tup [(.op2 .add (.lit<|S [102])<|.bi .str [(.var 5)]),(.idx (.var 6)<|.lit<|.int 0),(.idx (.var 6)<|.lit<|.int 1)]]
noncomputable abbrev tF(pg sr ky:D)(fs ts:aB)(a b:Mv.Slot)(M:List Mv.Slot) :List Mv.Slot:=[.fz pg,.fz sr,.fz ky,.ai<|.list fs,.ai<|.list ts,a,b]++M
theorem t_loop(N:Nat)(pg sr ky:D)(fs:aB)(s0 s1 s2 s3 s4 s5 s6 s7:Mv.Slot) :∀(d i:Nat)(a b:Mv.Slot),i+d≤400→
  forB (cf N) (tF pg sr ky fs (trN f kn i) a b [s0,s1,s2,s3,s4,s5,s6,s7]) (.tup [5,6]) tB [5,6] (enumL i<|(List.range' i d).map<|enC f kn)=some (.ok .next,tF pg sr ky fs (trN f kn<|i+d) .no .no [s0,s1,s2,s3,s4,s5,s6,s7]):=by
 intro d;induction d with
 | zero=>intro i a b _;show forB _ _ _ _ _ []=_;rw[forB_nil];rfl
 | succ d ih=>
  intro i a b hi;have g:=ih (i+1) (.fz<|.int i) (.fz<|enC f kn i) (by exact(lin [i,d] [] 1 (.nle (.a (.a (.v 0)<|.c 1)<|.v 1)<|.c 400) [(1,.nle (.a (.v 0)<|.a (.v 1)<|.c 1)<|.c 400)] rfl hi));obtain⟨h3,h4⟩:=strK (k:=i) (by exact(lin [i,d] [] 1 (.nle (.a (.v 0)<|.c 1)<|.c 400) [(1,.nle (.a (.v 0)<|.a (.v 1)<|.c 1)<|.c 400)] rfl hi));have tl:(trN f kn i).length=i:=by unfold trN;rw[List.length_map,List.length_range]
  have ts:trN f kn (i+1)=trN f kn i++[.tuple [.str<|nmS i,.str f,.tuple<|kn i]]:=by unfold trN;rw[List.range_succ,List.map_append];rfl
  have z:decide ((trN f kn i).length<Sz)=true:=decide_eq_true (by rw[tl];show i<16777216;exact(lin [i,d] [] 1 (.nle (.a (.v 0)<|.c 1)<|.c 16777216) [(1,.nle (.a (.v 0)<|.a (.v 1)<|.c 1)<|.c 400)] rfl hi));rw[ts,show i+1+d=i+(d+1) by exact(Nat.le_antisymm (lin [i,d] [] 1 (.nle (.a (.a (.v 0)<|.c 1)<|.v 1)<|.a (.v 0)<|.a (.v 1)<|.c 1) [] rfl)<|lin [i,d] [] 1 (.nle (.a (.v 0)<|.a (.v 1)<|.c 1)<|.a (.a (.v 0)<|.c 1)<|.v 1) [] rfl)]at g;show forB (cf N) (tF pg sr ky fs (trN f kn i) a b [s0,s1,s2,s3,s4,s5,s6,s7]) (.tup [5,6]) tB [5,6] (.tuple [.int i,.tuple [.str f,.tuple<|kn i]]::enumL (i+1) ((List.range' (i+1) d).map<|enC f kn))=_
  generalize trN f kn i=T at z g ⊢;exact wkL [.v 0<|h3,.v 0<|h4,.t 2<|z,.lp 0<|g] rfl (by kernel_rfl)
theorem init_eq(n:Nat) :cF P (n+1) 27 [.no,.no,.no,.no,.no,.no,.no,.no,.fz<|prg f ps body,.fz<|.dict<|sdC f ws]=some (.ok<|.fz .none,mkC f ps body ws []):=by exact wkF [] rfl (by kernel_rfl)
theorem worked_eq(n:Nat)(hm:m<399)(kp:cF P n 11 [.fz<|prg f ps body,.fz<|.dict<|sdC f ws]=okD (.bool true))(n0:cF P n 28 (mkC f ps body ws []++[.fz<|.str f,.fz<|.tuple<|kn 0])=okM (fdC f ps body) (sdC f ws) (esN f kn 1) (.str<|nmS 0))(ip:cF P n 27 [.no,.no,.no,.no,.no,.no,.no,.no,.fz<|prg f ps body,.fz<|.dict<|sdC f ws]=some (.ok<|.fz .none,mkC f ps body ws []))
  (hf:∀i,i≤m→cF P n 33 (mkC f ps body ws (esN f kn<|i+1)++[.fz<|.int i])=okM (fdC f ps body) (sdC f ws) (esN f kn (if i<m then i+2 else i+1)) (.tuple [.str<|nmS i,oth,R i])) :
  cF P (n+1) 13 [.fz<|prg f ps body,.fz<|.dict<|sdC f ws,.fz<|.tuple<|kn 0]=okD (.tuple [.tuple<|fsN oth R<|m+1,.list<|trN f kn<|m+1]):=by
 have h:=w_all n (.tuple<|kn 0) hm hf m 0 1208925819614629174706176 (Nat.zero_add _) (by exact(lin [m] [] 1 (.nle (.a (.v 0)<|.c 2)<|.c 1208925819614629174706176) [(1,.nle (.a (.v 0)<|.c 1)<|.c 399)] rfl hm));have g:=t_loop (f:=f) (kn:=kn) n (prg f ps body) (.dict<|sdC f ws) (.tuple<|kn 0) (fsN oth R<|m+1) (.ai<|.dict<|fdC f ps body) (.fz<|.dict<|sdC f ws) (.fz<|.list<|esN f kn<|m+1) (.tab<|tabE 0<|esN f kn<|m+1) .no .no .no .no (m+1) 0 .no .no (by exact(lin [m] [] 1 (.nle (.a (.c 0)<|.a (.v 0)<|.c 1)<|.c 400) [(1,.nle (.a (.v 0)<|.c 1)<|.c 399)] rfl hm));rw[← List.range_eq_range',Nat.zero_add]at g;have g:forB (cf n) (tF (prg f ps body) (.dict<|sdC f ws) (.tuple<|kn 0) (fsN oth R<|m+1) [] .no .no [.ai<|.dict<|fdC f ps body,.fz<|.dict<|sdC f ws,.fz<|.list<|esN f kn<|m+1,.tab<|tabE 0<|esN f kn<|m+1,.no,.no,.no,.no]) (.tup [5,6]) tB [5,6] (enumL 0<|esN f kn<|m+1)=_:=g;have f0:fsN oth R 0=[]:=rfl;rw[f0]at h;generalize esN f kn (m+1)=E at h g;generalize esN f kn (0+1)=E1 at h n0;exact wkF [.c 0<|kp,.c 2<|ip,.c 3<|n0,.lp 0<|h,.lp 1<|g] rfl (by kernel_rfl)
theorem left_eq(n:Nat){kd:D}{fs ts:aB}(h:cF P n 13 [.fz<|prg f ps body,.fz<|.dict<|sdC f ws,.fz kd]=okD (.tuple [.tuple fs,.list ts])) :cF P (n+1) 14 [.fz<|prg f ps body,.fz<|.dict<|sdC f ws,.fz kd]=okD (.tuple fs):=by exact wkF [.c 0<|h] rfl (by kernel_rfl)
theorem cases_eq(n:Nat){kd:D}{fs ts:aB}(h:cF P n 13 [.fz<|prg f ps body,.fz<|.dict<|sdC f ws,.fz kd]=okD (.tuple [.tuple fs,.list ts])) :cF P (n+1) 15 [.fz<|prg f ps body,.fz<|.dict<|sdC f ws,.fz kd]=okD (.list ts):=by exact wkF [.c 0<|h] rfl (by kernel_rfl)
end
end Lq
end
section
namespace Lq
open PySem Mv
theorem dx1(x:Str)(d:D) :idxD (.dict [(.str x,d)]) (.str x)=some d:=if_pos rfl
theorem din(x:Str)(d:D) :inD (.str x) (.dict [(.str x,d)])=some true:=by
 show some (if x=x then some d else none).isSome=_
 rw[if_pos rfl];rfl
theorem dno{x z:Str}(h:x≠z)(d:D) :inD (.str z) (.dict [(.str x,d)])=some false:=by
 show some (if x=z then some d else none).isSome=_
 rw[if_neg h];rfl
theorem es_get(f:Str)(kn:Nat→aB)(i:Nat) :idxD (.list<|esN f kn<|i+1) (.int i)=some (.tuple [.str f,.tuple<|kn i]):=by
 show idxOf _ _=_
 unfold idxOf;rw[if_pos<|Int.natCast_nonneg _,Int.toNat_natCast];unfold esN;rw[List.getElem?_map,List.getElem?_range<|Nat.lt_succ_self i];rfl
structure KeyC(f:Str)(kn:Nat→aB)(m:Nat) :Prop where
 ok:∀i,keyOk (.tuple [.str f,.tuple<|kn i])=true
 key:∀i,keyD (.tuple [.str f,.tuple<|kn i])=true
 ne:∀i j,i≤m→j≤m→i≠j→kn i≠kn j
theorem nm_next(n:Nat)(fd sd:Env2){f:Str}{kn:Nat→aB}{m i:Nat}(K:KeyC f kn m)(hm:m<398)(hi:i<m) :cF P (n+1) 28 (mkS fd sd (esN f kn<|i+1)++[.fz<|.str f,.fz<|.tuple<|kn<|i+1])=okM fd sd (esN f kn<|i+2) (.str<|nmS<|i+1):=by
 have h:=name_new n fd sd (esN f kn<|i+1) f (kn<|i+1) (by rw[es_len];exact(lin [i,m] [] 1 (.nle (.a (.a (.v 0)<|.c 1)<|.c 1)<|.c 399) [(1,.nle (.a (.v 1)<|.c 1)<|.c 398),(1,.nle (.a (.v 0)<|.c 1)<|.v 1)] rfl hm hi)) (K.ok _) (key_refl _<|K.key _) fun x hx=>by obtain⟨j,hj,rfl⟩:=List.mem_map.mp hx;have hj:=List.mem_range.mp hj;refine key_ne (K.key j) (K.key<|i+1) fun e=>K.ne j (i+1) (by exact(lin [j,m,i] [] 1 (.nle (.v 0)<|.v 1) [(1,.nle (.a (.v 2)<|.c 1)<|.v 1),(1,.nle (.a (.v 0)<|.c 1)<|.a (.v 2)<|.c 1)] rfl hi hj)) (by exact(lin [i,m] [] 1 (.nle (.a (.v 0)<|.c 1)<|.v 1) [(1,.nle (.a (.v 0)<|.c 1)<|.v 1)] rfl hi)) (by exact(fun mvo16=>(linF [j,i] [] [(1,.nle (.a (.v 0)<|.c 1)<|.a (.v 1)<|.c 1),(-1,.neq (.v 0)<|.a (.v 1)<|.c 1)] rfl hj mvo16))) ?_;injection e with e;injection e with _ e;injection e with e _;injection e
 rw[es_len,← es_succ]at h;exact h
theorem nm_first(n:Nat)(fd sd:Env2){f:Str}{kn:Nat→aB}{m:Nat}(K:KeyC f kn m) :cF P (n+1) 28 (mkS fd sd []++[.fz<|.str f,.fz<|.tuple<|kn 0])=okM fd sd (esN f kn 1) (.str<|nmS 0):=name_new n fd sd [] f (kn 0) (by decide) (K.ok _) (key_refl _<|K.key _) fun x hx=>nomatch hx
section
variable {n i:Nat}{fd sd:Env2}{f a b c:Str}{body v r:D}{es es':aB}(s:StrK i)
include s
theorem fn_tf(h1:idxD (.list es) (.int i)=some (.tuple [.str f,.tuple [v]]))(h2:idxD (.dict fd) (.str f)=some (.tuple [.tuple [.str a,.str b],body]))(h3:idxD (.dict sd) (.str f)=some (.tuple [.bool true,.bool false]))(L:LAt fd sd (n+1) es (.dict [(.str a,v)]) body r es') :
  cF P (n+2) 33 (mkS fd sd es++[.fz<|.int i])=okM fd sd es' (.tuple [.str<|nmS i,.tuple [.str b],r]):=by
 obtain⟨q3,q4⟩:=s;exact wkF [.d 0<|h1,.d 0<|h2,.d 0<|h3,.v 16<|q3,.v 0<|q4,.c 0<|L] rfl (by kernel_rfl)
theorem fn_tff(h1:idxD (.list es) (.int i)=some (.tuple [.str f,.tuple [v]]))(h2:idxD (.dict fd) (.str f)=some (.tuple [.tuple [.str a,.str b,.str c],body]))(h3:idxD (.dict sd) (.str f)=some (.tuple [.bool true,.bool false,.bool false]))(L:LAt fd sd (n+1) es (.dict [(.str a,v)]) body r es') :
  cF P (n+2) 33 (mkS fd sd es++[.fz<|.int i])=okM fd sd es' (.tuple [.str<|nmS i,.tuple [.str b,.str c],r]):=by
 obtain⟨q3,q4⟩:=s;exact wkF [.d 0<|h1,.d 0<|h2,.d 0<|h3,.v 21<|q3,.v 0<|q4,.c 0<|L] rfl (by kernel_rfl)
theorem fn_t(h1:idxD (.list es) (.int i)=some (.tuple [.str f,.tuple [v]]))(h2:idxD (.dict fd) (.str f)=some (.tuple [.tuple [.str a],body]))(h3:idxD (.dict sd) (.str f)=some (.tuple [.bool true]))(L:LAt fd sd (n+1) es (.dict [(.str a,v)]) body r es') :
  cF P (n+2) 33 (mkS fd sd es++[.fz<|.int i])=okM fd sd es' (.tuple [.str<|nmS i,.tuple [],r]):=by
 obtain⟨q3,q4⟩:=s;exact wkF [.d 0<|h1,.d 0<|h2,.d 0<|h3,.v 11<|q3,.v 0<|q4,.c 0<|L] rfl (by kernel_rfl)
theorem fn_f(h1:idxD (.list es) (.int i)=some (.tuple [.str f,.tuple []]))(h2:idxD (.dict fd) (.str f)=some (.tuple [.tuple [.str a],body]))(h3:idxD (.dict sd) (.str f)=some (.tuple [.bool false]))(L:LAt fd sd (n+1) es (.dict []) body r es') :
  cF P (n+2) 33 (mkS fd sd es++[.fz<|.int i])=okM fd sd es' (.tuple [.str<|nmS i,.tuple [.str a],r]):=by
 obtain⟨q3,q4⟩:=s;exact wkF [.d 0<|h1,.d 0<|h2,.d 0<|h3,.v 11<|q3,.v 0<|q4,.c 0<|L] rfl (by kernel_rfl)
end
theorem tame_n(n:Nat)(a:Str)(op:Str)(ho:op=k_down∨op=k_rest) :cF P (n+2) 10 [.fz<|doo op [nam a],.fz<|.list [.str a]]=okD (.bool true):=by
 have q:cmpD .isin (.str a) (.list [.str a])=some true:=by
  have e:Mv.eqD (.str a) (.str a)=some true:=by show some (a.cps.toList==a.cps.toList)=_;rw[beq_self_eq_true]
  show(match Mv.eqD (.str a) (.str a) with
   | none=>none
   | some p=>some<|p||false)=_
  rw[e];rfl
 have t:cF P (n+1) 10 [.fz<|nam a,.fz<|.list [.str a]]=okD (.bool true):=by exact wkF [.b 4<|q] rfl (by kernel_rfl)
 rcases ho with rfl | rfl
 .exact wkF [.c 11<|t] rfl (by kernel_rfl)
 .exact wkF [.c 11<|t] rfl (by kernel_rfl)
section
variable (f a b:Str)(m:Nat)
noncomputable abbrev bP:D:=iff3 (nam a) (doo k_times [nam b,cal f [doo k_down [nam a],nam b]])<|val<|.int 1
noncomputable abbrev psP:D:=.tuple [.str a,.str b]
noncomputable abbrev wsP:D:=.tuple [.bool true,.bool false]
noncomputable abbrev knI(i:Nat) :aB:=[.int<|(m:Int) - i]
noncomputable def RP(i:Nat) :D:=if i<m then doo k_times [nam b,cal (nmS<|i+1) [nam b]] else val (.int 1)
theorem key_I:KeyC f (knI m) m:=by refine⟨fun i=>rfl,fun i=>rfl,fun i j hi hj h e=>?_⟩;injection e with e _;injection e with e;omega
variable {f a b m}
theorem fP(hab:a≠b)(hm:m<398)(n i:Nat)(hi:i≤m) :cF P (n+15) 33 (mkC f (psP a b) (bP f a b) wsP (esN f (knI m)<|i+1)++[.fz<|.int i])=okM (fdC f (psP a b)<|bP f a b) (sdC f wsP) (esN f (knI m) (if i<m then i+2 else i+1)) (.tuple [.str<|nmS i,.tuple [.str b],RP b m i]):=by
 refine fn_tf (strK (by exact(lin [i,m] [] 1 (.nle (.a (.v 0)<|.c 1)<|.c 400) [(1,.nle (.a (.v 1)<|.c 1)<|.c 398),(1,.nle (.v 0)<|.v 1)] rfl hm hi))) (es_get _ _ _) (dx1 _ _) (dx1 _ _) ?_;have A:∀k,LAt (fdC f (psP a b)<|bP f a b) (sdC f wsP) (k+1) (esN f (knI m)<|i+1) (.dict [(.str a,.int<|(m:Int) - i)]) (nam a) (val<|.int<|(m:Int) - i) (esN f (knI m)<|i+1):=fun k=>l_nk (din _ _)<|dx1 _ _;have B:∀k,LAt (fdC f (psP a b)<|bP f a b) (sdC f wsP) (k+1) (esN f (knI m)<|i+1) (.dict [(.str a,.int<|(m:Int) - i)]) (nam b) (nam b) (esN f (knI m)<|i+1):=fun k=>l_nu<|dno hab _;unfold RP;by_cases h:i<m
 .rw[if_pos h,if_pos h];refine if_y (n:=n+11) (v:=(m:Int) - i) (by omega) (A<|n+11)<|do_nc (n:=n+9) (B<|n+9)<|c_tf (n:=n+7) (v:=.int<|(m:Int) - i - 1) (dx1 _ _) (do1_v (n:=n+5) (A<|n+5)<|wo_down n _ (by omega)) (B<|n+7) ?_;have:=nm_next (n+7) (fdC f (psP a b)<|bP f a b) (sdC f wsP) (key_I f m) hm h;rwa [show knI m (i+1)=[.int<|(m:Int) - i - 1] by unfold knI;rw[show(m:Int) - ((i+1:Nat) :Int)=(m:Int) - i - 1 by omega]]at this
 .rw[if_neg h,if_neg h];have e:(m:Int) - i=0:=by omega
  have A0:=A<|n+11;rw[e]at A0;refine if_n (n:=n+11) ?_ l_v;rw[e];exact A0
theorem keeps_P(n:Nat) :cF P (n+8) 11 [.fz<|prg f (psP a b)<|bP f a b,.fz<|.dict<|sdC f wsP]=okD (.bool true):=by
 have s:=dx1 f wsP;have t:=tame_n (n+5) a k_down<|.inl rfl;have c:cF P (n+7) 9 [.fz<|bP f a b]=okD (.list [cal f [doo k_down [nam a],nam b]]):=by exact wkF [] rfl (by kernel_rfl)
 exact wkF [.d 2<|s,.c 6<|c,.d 4<|s,.c 3<|t] rfl (by kernel_rfl)
theorem worked_P(hab:a≠b)(hm:m<398)(n:Nat) :cF P (n+16) 13 [.fz<|prg f (psP a b)<|bP f a b,.fz<|.dict<|sdC f wsP,.fz<|.tuple<|knI m 0]=okD (.tuple [.tuple<|fsN (.tuple [.str b]) (RP b m)<|m+1,.list<|trN f (knI m)<|m+1]):=
 worked_eq (n+15) (by exact(lin [m] [] 1 (.nle (.a (.v 0)<|.c 1)<|.c 399) [(1,.nle (.a (.v 0)<|.c 1)<|.c 398)] rfl hm)) (keeps_P<|n+7) (nm_first (n+14) _ _<|key_I f m) (init_eq<|n+14) fun i hi=>fP hab hm n i hi
end
end Lq
end
section
namespace Lq
open PySem Mv
noncomputable abbrev iD(l:List Int) :D:=.tuple<|l.map .int
theorem key_ints(l:List Int) :keyDs (l.map .int)=true:=by induction l with
 | nil=>rfl
 | cons x l ih=>exact ih
theorem dep_ints(l:List Int) :PyData.depthAll (l.map PyData.int)=0:=by induction l with
 | nil=>rfl
 | cons x l ih=>show max 0 (PyData.depthAll<|l.map PyData.int)=0;rw[ih];rfl
section
variable (f a b c:Str)(rs:List Int)
noncomputable abbrev bS:D:=iff3 (doo k_empty [nam a]) (nam b)<|cal f [doo k_rest [nam a],doo k_plus [doo k_times [nam b,nam c],doo k_first [nam a]],nam c]
noncomputable abbrev psS:D:=.tuple [.str a,.str b,.str c]
noncomputable abbrev wsS:D:=.tuple [.bool true,.bool false,.bool false]
noncomputable abbrev knS(i:Nat) :aB:=[iD<|rs.drop i]
noncomputable abbrev gS(v:Int) :D:=doo k_plus [doo k_times [nam b,nam c],val<|.int v]
noncomputable def RS(i:Nat) :D:=match rs[i]? with
 | some v=>cal (nmS<|i+1) [gS b c v,nam c]
 | none=>nam b
theorem key_S:KeyC f (knS rs) rs.length:=by
 refine⟨fun i=>?_,fun i=>?_,fun i j hi hj h e=>?_⟩
 .refine Bool.and_eq_true_iff.mpr ⟨?_,decide_eq_true ?_⟩
  .show(true&&((keyDs ((rs.drop i).map .int)&&true)&&true))=true
   rw[key_ints];rfl
  .show max 0 (max (max (PyData.depthAll ((rs.drop i).map PyData.int)+1) 0+1) 0)<8
   rw[dep_ints];decide
 .show(true&&((keyDs ((rs.drop i).map .int)&&true)&&true))=true
  rw[key_ints];rfl
 .injection e with e _;injection e with e;have:=congrArg List.length e;rw[List.length_map,List.length_map,List.length_drop,List.length_drop]at this;omega
variable {f a b c rs}
theorem fS(hab:a≠b)(hac:a≠c)(hm:rs.length<398)(n i:Nat)(hi:i≤rs.length) :cF P (n+13) 33 (mkC f (psS a b c) (bS f a b c) wsS (esN f (knS rs)<|i+1)++[.fz<|.int i])=okM (fdC f (psS a b c)<|bS f a b c) (sdC f wsS) (esN f (knS rs) (if i<rs.length then i+2 else i+1)) (.tuple [.str<|nmS i,.tuple [.str b,.str c],RS b c rs i]):=by refine fn_tff (strK (by exact(lin [i,rs.length] [] 1 (.nle (.a (.v 0)<|.c 1)<|.c 400) [(1,.nle (.a (.v 1)<|.c 1)<|.c 398),(1,.nle (.v 0)<|.v 1)] rfl hm hi))) (es_get _ _ _) (dx1 _ _) (dx1 _ _) ?_;generalize hd:rs.drop i=l;have A:∀k,LAt (fdC f (psS a b c)<|bS f a b c) (sdC f wsS) (k+1) (esN f (knS rs)<|i+1) (.dict [(.str a,iD l)]) (nam a) (val<|iD l) (esN f (knS rs)<|i+1):=fun k=>l_nk (din _ _)<|dx1 _ _;have B:∀k,LAt (fdC f (psS a b c)<|bS f a b c) (sdC f wsS) (k+1) (esN f (knS rs)<|i+1) (.dict [(.str a,iD l)]) (nam b) (nam b) (esN f (knS rs)<|i+1):=fun k=>l_nu<|dno hab _;have C:∀k,LAt (fdC f (psS a b c)<|bS f a b c) (sdC f wsS) (k+1) (esN f (knS rs)<|i+1) (.dict [(.str a,iD l)]) (nam c) (nam c) (esN f (knS rs)<|i+1):=fun k=>l_nu<|dno hac _;unfold RS;cases l with
 | nil=>
  have hi':¬i<rs.length:=fun h=>by have:=List.drop_eq_nil_iff.mp hd;omega
  rw[if_neg hi',List.getElem?_eq_none<|Nat.not_lt.mp hi'];exact if_y (n:=n+9) (v:=1) (by decide) (do1_v (n:=n+7) (A _)<|wo_empty0<|n+4)<|B _
 | cons v l=>
  have hi':i<rs.length:=by
   by_cases h:i<rs.length
   .exact h
   .rw[List.drop_eq_nil_iff.mpr<|Nat.not_lt.mp h]at hd;exact nomatch hd
  have hv:rs[i]?=some v:=by
   have:=congrArg (·[0]?) hd
   simpa using this
  have hl:rs.drop (i+1)=l:=by rw[← List.tail_drop,hd];rfl
  rw[if_pos hi',hv];refine if_n (n:=n+9) (do1_v (n:=n+7) (A _)<|wo_empty1 (n+4) _ _)<|c_tff (n:=n+7) (v:=iD l) (dx1 _ _) (do1_v (n:=n+5) (A _)<|wo_rest (n+2) _ _) (do_dv (n:=n+5) (do_nn (n:=n+3) (B _)<|C _)<|do1_v (n:=n+3) (A _)<|wo_first n _ _) (C _) ?_;have:=nm_next (n+7) (fdC f (psS a b c)<|bS f a b c) (sdC f wsS) (key_S f rs) hm hi';rwa [show knS rs (i+1)=[iD l] by unfold knS;rw[hl]]at this
theorem keeps_S(n:Nat) :cF P (n+8) 11 [.fz<|prg f (psS a b c)<|bS f a b c,.fz<|.dict<|sdC f wsS]=okD (.bool true):=by
 have s:=dx1 f wsS;have t:=tame_n (n+5) a k_rest<|.inr rfl;have q:cF P (n+7) 9 [.fz<|bS f a b c]=okD (.list [cal f [doo k_rest [nam a],doo k_plus [doo k_times [nam b,nam c],doo k_first [nam a]],nam c]]):=by exact wkF [] rfl (by kernel_rfl)
 exact wkF [.d 2<|s,.c 8<|q,.d 4<|s,.c 3<|t] rfl (by kernel_rfl)
theorem worked_S(hab:a≠b)(hac:a≠c)(hm:rs.length<398)(n:Nat) :cF P (n+14) 13 [.fz<|prg f (psS a b c)<|bS f a b c,.fz<|.dict<|sdC f wsS,.fz<|.tuple<|knS rs 0]=okD (.tuple [.tuple<|fsN (.tuple [.str b,.str c]) (RS b c rs)<|rs.length+1,.list<|trN f (knS rs)<|rs.length+1]):=
 worked_eq (n+13) (by exact(lin [rs.length] [] 1 (.nle (.a (.v 0)<|.c 1)<|.c 399) [(1,.nle (.a (.v 0)<|.c 1)<|.c 398)] rfl hm)) (keeps_S<|n+5) (nm_first (n+12) _ _<|key_S f rs) (init_eq<|n+12) fun i hi=>fS hab hac hm n i hi
end
section
variable (f a:Str)(m:Nat)
noncomputable abbrev mC(dp:Bool)(e:D) :D:=if dp=true then doo k_plus [val<|.int 1,e] else e
noncomputable abbrev bC(dp:Bool) :D:=iff3 (nam a) (mC dp<|cal f [doo k_down [nam a]])<|val<|.int 7
noncomputable def RC(dp:Bool)(i:Nat) :D:=if i<m then mC dp (cal (nmS<|i+1) []) else val (.int 7)
noncomputable def RU(dp:Bool) :D:=iff3 (nam a) (mC dp<|cal (nmS 0) [doo k_down [nam a]])<|val<|.int 7
variable {f a m}
theorem l_mc{n:Nat}{fd sd:Env2}{es es':aB}{h e:D}{g:Str}{ps:aB}(dp:Bool)(L:LAt fd sd (n+1) es h e (cal g ps) es')(L':LAt fd sd (n+3) es h e (cal g ps) es') :LAt fd sd (n+3) es h (mC dp e) (mC dp<|cal g ps) es':=by cases dp with
 | true=>exact do_vc l_v L
 | false=>exact L'
theorem fC(dp:Bool)(hm:m<398)(n i:Nat)(hi:i≤m) :cF P (n+15) 33 (mkC f (.tuple [.str a]) (bC f a dp) (.tuple [.bool true]) (esN f (knI m)<|i+1)++[.fz<|.int i])=okM (fdC f (.tuple [.str a])<|bC f a dp) (sdC f<|.tuple [.bool true]) (esN f (knI m) (if i<m then i+2 else i+1)) (.tuple [.str<|nmS i,.tuple [],RC m dp i]):=by
 refine fn_t (strK (by exact(lin [i,m] [] 1 (.nle (.a (.v 0)<|.c 1)<|.c 400) [(1,.nle (.a (.v 1)<|.c 1)<|.c 398),(1,.nle (.v 0)<|.v 1)] rfl hm hi))) (es_get _ _ _) (dx1 _ _) (dx1 _ _) ?_;have A:∀k,LAt (fdC f (.tuple [.str a])<|bC f a dp) (sdC f<|.tuple [.bool true]) (k+1) (esN f (knI m)<|i+1) (.dict [(.str a,.int<|(m:Int) - i)]) (nam a) (val<|.int<|(m:Int) - i) (esN f (knI m)<|i+1):=fun k=>l_nk (din _ _)<|dx1 _ _;unfold RC;by_cases h:i<m
 .rw[if_pos h,if_pos h];have N:∀k,LAt (fdC f (.tuple [.str a])<|bC f a dp) (sdC f<|.tuple [.bool true]) (k+10) (esN f (knI m)<|i+1) (.dict [(.str a,.int<|(m:Int) - i)]) (cal f [doo k_down [nam a]]) (cal (nmS<|i+1) []) (esN f (knI m)<|i+2):=fun k=>by refine c_t (n:=k+7) (v:=.int<|(m:Int) - i - 1) (dx1 _ _) (do1_v (n:=k+5) (A _)<|wo_down k _ (by omega)) ?_;have:=nm_next (k+7) (fdC f (.tuple [.str a])<|bC f a dp) (sdC f<|.tuple [.bool true]) (key_I f m) hm h;rwa [show knI m (i+1)=[.int<|(m:Int) - i - 1] by unfold knI;rw[show(m:Int) - ((i+1:Nat) :Int)=(m:Int) - i - 1 by omega]]at this
  exact if_y (n:=n+11) (v:=(m:Int) - i) (by omega) (A<|n+11)<|l_mc (n:=n+9) dp (N n)<|N<|n+2
 .rw[if_neg h,if_neg h];have e:(m:Int) - i=0:=by omega
  have A0:=A<|n+11;rw[e]at A0;refine if_n (n:=n+11) ?_ l_v;rw[e];exact A0
theorem ci_if(n:Nat)(a:Str)(B C:D)(h:cF P (n+6) 9 [.fz B]=okD (.list [C])) :cF P (n+7) 9 [.fz<|iff3 (nam a) B<|val<|.int 7]=okD (.list [C]):=by exact wkF [.c 12<|h] rfl (by kernel_rfl)
theorem ci_c(n:Nat)(f a:Str) :cF P (n+5) 9 [.fz<|cal f [doo k_down [nam a]]]=okD (.list [cal f [doo k_down [nam a]]]):=by exact wkF [] rfl (by kernel_rfl)
theorem ci_p(n:Nat)(B C:D)(h:cF P (n+5) 9 [.fz B]=okD (.list [C])) :cF P (n+6) 9 [.fz<|doo k_plus [val<|.int 1,B]]=okD (.list [C]):=by exact wkF [.c 12<|h] rfl (by kernel_rfl)
theorem ci_C(n:Nat)(dp:Bool) :cF P (n+7) 9 [.fz<|bC f a dp]=okD (.list [cal f [doo k_down [nam a]]]):=by cases dp with
 | true=>exact ci_if n a _ _<|ci_p n _ _<|ci_c n f a
 | false=>exact ci_if n a _ _<|ci_c (n+1) f a
theorem keeps_C(n:Nat)(dp:Bool) :cF P (n+8) 11 [.fz<|prg f (.tuple [.str a])<|bC f a dp,.fz<|.dict<|sdC f<|.tuple [.bool true]]=okD (.bool true):=by have s:=dx1 f<|.tuple [.bool true];have t:=tame_n (n+5) a k_down<|.inl rfl;have q:=ci_C (f:=f) (a:=a) n dp;generalize bC f a dp=B at q ⊢;exact wkF [.d 2<|s,.c 4<|q,.d 4<|s,.c 3<|t] rfl (by kernel_rfl)
theorem worked_C(dp:Bool)(hm:m<398)(n:Nat) :cF P (n+16) 13 [.fz<|prg f (.tuple [.str a])<|bC f a dp,.fz<|.dict<|sdC f<|.tuple [.bool true],.fz<|.tuple<|knI m 0]=okD (.tuple [.tuple<|fsN (.tuple []) (RC m dp)<|m+1,.list<|trN f (knI m)<|m+1]):=
 worked_eq (n+15) (by exact(lin [m] [] 1 (.nle (.a (.v 0)<|.c 1)<|.c 399) [(1,.nle (.a (.v 0)<|.c 1)<|.c 398)] rfl hm)) (keeps_C (n+7) dp) (nm_first (n+14) _ _<|key_I f m) (init_eq<|n+14) fun i hi=>fC dp hm n i hi
theorem keeps_U(n:Nat)(dp:Bool) :cF P (n+8) 11 [.fz<|prg f (.tuple [.str a])<|bC f a dp,.fz<|.dict<|sdC f<|.tuple [.bool false]]=okD (.bool true):=by have s:=dx1 f<|.tuple [.bool false];have q:=ci_C (f:=f) (a:=a) n dp;generalize bC f a dp=B at q ⊢;exact wkF [.d 2<|s,.c 4<|q,.d 4<|s] rfl (by kernel_rfl)
noncomputable def knU(_:Nat) :aB:=[]
theorem key_U:KeyC f knU 0:=⟨fun j0_=>rfl,fun j0_=>rfl,fun i j hi hj h=>absurd ((Nat.le_zero.mp hi).trans (Nat.le_zero.mp hj).symm) h⟩
theorem fU(dp:Bool)(n i:Nat)(hi:i≤0) :cF P (n+11) 33 (mkC f (.tuple [.str a]) (bC f a dp) (.tuple [.bool false]) (esN f knU<|i+1)++[.fz<|.int i])=okM (fdC f (.tuple [.str a])<|bC f a dp) (sdC f<|.tuple [.bool false]) (esN f knU (if i<0 then i+2 else i+1)) (.tuple [.str<|nmS i,.tuple [.str a],RU a dp]):=by obtain rfl:=Nat.le_zero.mp hi;refine fn_f (n:=n+9) (strK (by decide)) (es_get _ _ _) (dx1 _ _) (dx1 _ _) ?_;have A:∀k,LAt (fdC f (.tuple [.str a])<|bC f a dp) (sdC f<|.tuple [.bool false]) (k+1) (esN f knU 1) (.dict []) (nam a) (nam a) (esN f knU 1):=fun k=>l_nu rfl;have N:∀k,LAt (fdC f (.tuple [.str a])<|bC f a dp) (sdC f<|.tuple [.bool false]) (k+6) (esN f knU 1) (.dict []) (cal f [doo k_down [nam a]]) (cal (nmS 0) [doo k_down [nam a]]) (esN f knU 1):=fun k=>c_f (n:=k+3) (dx1 _ _) (do1_n (n:=k+1)<|A _)<|name_0 (k+3) _ _ _ f [] rfl rfl<|key_refl _ rfl;exact if_opn (n:=n+7) (A _) (l_mc (n:=n+5) dp (N n)<|N<|n+2) l_v
theorem worked_U(dp:Bool)(n:Nat) :cF P (n+12) 13 [.fz<|prg f (.tuple [.str a])<|bC f a dp,.fz<|.dict<|sdC f<|.tuple [.bool false],.fz<|.tuple<|knU 0]=okD (.tuple [.tuple<|fsN (.tuple [.str a]) (fun j0_=>RU a dp) 1,.list<|trN f knU 1]):=
 worked_eq (m:=0) (n+11) (by decide) (keeps_U (n+3) dp) (nm_first (n+10) _ _ key_U) (init_eq<|n+10) fun i hi=>fU dp n i hi
end
end Lq
end
section
namespace Lq
open PySem Mv
noncomputable abbrev mS(F:Env2)(m c:Int)(ts us:aB) :List Mv.Slot:=[.ai<|.dict F,.no,.no,.no,.fz<|.int m,.fz<|.int c,.ai<|.list ts,.ai<|.list us]
noncomputable abbrev mR(F:Env2)(m c:Int)(ts us:aB) :Option (aA Rv×List Mv.Slot):=some (.ok<|.fz .none,mS F m c ts us)
noncomputable abbrev mE(e:Str)(F:Env2)(m c:Int)(ts us:aB) :Option (aA Rv×List Mv.Slot):=some (.error e,mS F m c ts us)
noncomputable abbrev tk(w:Str)(e h:D) :D:=.tuple [.str w,e,h]
noncomputable abbrev lk(e h:D) :D:=tk k_look e h
theorem pop_at(us:aB)(v:D) :popD (.list<|us++[v])=some (.tuple [.list us,v]):=by
 show(match (us++[v]).getLast? with | some d=>some (PyData.tuple [.list (us++[v]).dropLast,d]) | none=>none)=_
 rw[List.getLast?_append,List.dropLast_concat];rfl
noncomputable abbrev Bm:Nat:=1000000
theorem szD{l:aB}(h:l.length≤Bm) :decide (l.length<Sz)=true:=decide_eq_true<|Nat.lt_of_le_of_lt h (by decide)
theorem sz1{l:aB}(a:D)(h:l.length≤Bm) :decide ((l++[a]).length<Sz)=true:=decide_eq_true (by rw[List.length_append];show l.length+1<16777216;have h:l.length≤1000000:=h;exact(lin [l.length] [] 1 (.nle (.a (.a (.v 0)<|.c 1)<|.c 1)<|.c 16777216) [(1,.nle (.v 0)<|.c 1000000)] rfl ‹l.length≤Bm›))
theorem sz2{l:aB}(a b:D)(h:l.length≤Bm) :decide (((l++[a])++[b]).length<Sz)=true:=decide_eq_true (by rw[List.length_append,List.length_append];show l.length+1+1<16777216;have h:l.length≤1000000:=h;exact(lin [l.length] [] 1 (.nle (.a (.a (.a (.v 0)<|.c 1)<|.c 1)<|.c 1)<|.c 16777216) [(1,.nle (.v 0)<|.c 1000000)] rfl ‹l.length≤Bm›))
section
variable (n:Nat)(F:Env2)(m c:Int)(ts us:aB)
theorem st_look{e h:D}{c':Int}{ts' us':aB}(H:cF P (n+1) 36 (mS F m c ts us++[.fz e,.fz h])=mR F m c' ts' us') :cF P (n+2) 40 (mS F m c (ts++[lk e h]) us)=mR F m c' ts' us':=by have p:=pop_at ts<|lk e h;generalize ts++[lk e h]=M at p ⊢;exact wkF [.d 0<|p,.c 2<|H] rfl (by kernel_rfl)
theorem lk_nam{x:Str}{h v:D}(i:idxD h (.str x)=some v)(hu:us.length≤Bm) :cF P (n+1) 36 (mS F m c ts us++[.fz<|nam x,.fz h])=mR F m c ts (us++[v]):=by have z:=szD hu;exact wkF [.d 6<|i,.t 0<|z] rfl (by kernel_rfl)
theorem lk_val(v h:D)(hu:us.length≤Bm) :cF P (n+1) 36 (mS F m c ts us++[.fz<|val v,.fz h])=mR F m c ts (us++[v]):=by have z:=szD hu;exact wkF [.t 4<|z] rfl (by kernel_rfl)
theorem lk_do2(op:Str)(a b h:D)(hu:ts.length≤Bm) :cF P (n+1) 36 (mS F m c ts us++[.fz<|doo op [a,b],.fz h])=mR F m c (((ts++[tk k_do (doo op [a,b]) h])++[lk b h])++[lk a h]) us:=by have z:=szD hu;have z1:=sz1 (tk k_do (doo op [a,b]) h) hu;have z2:=sz2 (tk k_do (doo op [a,b]) h) (lk b h) hu;exact wkF [.t 9<|z,.t 3<|z1,.t 1<|z2] rfl (by kernel_rfl)
theorem lk_do1(op:Str)(a h:D)(hu:ts.length≤Bm) :cF P (n+1) 36 (mS F m c ts us++[.fz<|doo op [a],.fz h])=mR F m c ((ts++[tk k_do (doo op [a]) h])++[lk a h]) us:=by have z:=szD hu;have z1:=sz1 (tk k_do (doo op [a]) h) hu;exact wkF [.t 9<|z,.t 3<|z1] rfl (by kernel_rfl)
theorem lk_cal2(f:Str)(a b h:D)(hu:ts.length≤Bm) :cF P (n+1) 36 (mS F m c ts us++[.fz<|cal f [a,b],.fz h])=mR F m c (((ts++[tk k_call (cal f [a,b]) h])++[lk b h])++[lk a h]) us:=by have z:=szD hu;have z1:=sz1 (tk k_call (cal f [a,b]) h) hu;have z2:=sz2 (tk k_call (cal f [a,b]) h) (lk b h) hu;exact wkF [.t 9<|z,.t 3<|z1,.t 1<|z2] rfl (by kernel_rfl)
theorem lk_cal1(f:Str)(a h:D)(hu:ts.length≤Bm) :cF P (n+1) 36 (mS F m c ts us++[.fz<|cal f [a],.fz h])=mR F m c ((ts++[tk k_call (cal f [a]) h])++[lk a h]) us:=by have z:=szD hu;have z1:=sz1 (tk k_call (cal f [a]) h) hu;exact wkF [.t 9<|z,.t 3<|z1] rfl (by kernel_rfl)
theorem lk_cal0(f:Str)(h:D)(hu:ts.length≤Bm) :cF P (n+1) 36 (mS F m c ts us++[.fz<|cal f [],.fz h])=mR F m c (ts++[tk k_call (cal f []) h]) us:=by have z:=szD hu;exact wkF [.t 9<|z] rfl (by kernel_rfl)
theorem lk_if(t a b h:D)(hu:ts.length≤Bm) :cF P (n+1) 36 (mS F m c ts us++[.fz<|iff3 t a b,.fz h])=mR F m c ((ts++[tk k_if (iff3 t a b) h])++[lk t h]) us:=by have z:=szD hu;have z1:=sz1 (tk k_if (iff3 t a b) h) hu;exact wkF [.t 9<|z,.t 1<|z1] rfl (by kernel_rfl)
theorem taken2(a b:D) :cF P (n+1) 37 (mS F m c ts ((us++[a])++[b])++[.fz<|.int 2])=some (.ok<|.fz<|.list [a,b],mS F m c ts us):=by have p:=pop_at (us++[a]) b;have q:=pop_at us a;generalize (us++[a])++[b]=M at p ⊢;generalize us++[a]=ys at p q;exact wkF [.d 2<|p,.d 2<|q] rfl (by kernel_rfl)
theorem taken1(a:D) :cF P (n+1) 37 (mS F m c ts (us++[a])++[.fz<|.int 1])=some (.ok<|.fz<|.list [a],mS F m c ts us):=by have q:=pop_at us a;generalize us++[a]=ys at q ⊢;exact wkF [.d 2<|q] rfl (by kernel_rfl)
theorem taken0:cF P (n+1) 37 (mS F m c ts us++[.fz<|.int 0])=some (.ok<|.fz<|.list [],mS F m c ts us):=by exact wkF [] rfl (by kernel_rfl)
theorem st_do2{op:Str}{a b h va vb r:D}(hu:us.length≤Bm)(d:cF P (n+5) 8 [.fz<|.str op,.fz<|.list [va,vb]]=okD r) :cF P (n+6) 40 (mS F m c (ts++[tk k_do (doo op [a,b]) h])<|(us++[va])++[vb])=mR F m c ts (us++[r]):=by have p:=pop_at ts<|tk k_do (doo op [a,b]) h;have z:=szD hu;have t:=taken2 (n+4) F m c ts us va vb;generalize ts++[tk k_do (doo op [a,b]) h]=M at p ⊢;generalize (us++[va])++[vb]=ys at t ⊢;exact wkF [.d 0<|p,.c 9<|t,.c 0<|d,.t 0<|z] rfl (by kernel_rfl)
theorem st_do2E{op:Str}{a b h va vb:D}{e:Str}(d:cF P (n+5) 8 [.fz<|.str op,.fz<|.list [va,vb]]=erS e) :cF P (n+6) 40 (mS F m c (ts++[tk k_do (doo op [a,b]) h])<|(us++[va])++[vb])=mE e F m c ts us:=by have p:=pop_at ts<|tk k_do (doo op [a,b]) h;have t:=taken2 (n+4) F m c ts us va vb;generalize ts++[tk k_do (doo op [a,b]) h]=M at p ⊢;generalize (us++[va])++[vb]=ys at t ⊢;exact wkF [.d 0<|p,.c 9<|t,.c 0<|d] rfl (by kernel_rfl)
theorem st_do1{op:Str}{a h va r:D}(hu:us.length≤Bm)(d:cF P (n+5) 8 [.fz<|.str op,.fz<|.list [va]]=okD r) :cF P (n+6) 40 (mS F m c (ts++[tk k_do (doo op [a]) h])<|us++[va])=mR F m c ts (us++[r]):=by have p:=pop_at ts<|tk k_do (doo op [a]) h;have z:=szD hu;have t:=taken1 (n+4) F m c ts us va;generalize ts++[tk k_do (doo op [a]) h]=M at p ⊢;generalize us++[va]=ys at t ⊢;exact wkF [.d 0<|p,.c 9<|t,.c 0<|d,.t 0<|z] rfl (by kernel_rfl)
theorem st_ifT{t a b h:D}{v:Int}(hv:v≠0)(hu:ts.length≤Bm) :cF P (n+2) 40 (mS F m c (ts++[tk k_if (iff3 t a b) h])<|us++[.int v])=mR F m c (ts++[lk a h]) us:=by
 have p:=pop_at ts<|tk k_if (iff3 t a b) h;have q:=pop_at us<|.int v;have z:=szD hu;have e:cmpD .eq (.int v) (.int 0)=some false:=by rw[c_eqi];exact congrArg some<|beq_eq_false_iff_ne.mpr hv
 generalize us++[.int v]=ys at q ⊢;have k:cF P (n+1) 38 (mS F m c ts ys++[.fz<|iff3 t a b,.fz h])=mR F m c (ts++[lk a h]) us:=by exact wkF [.d 0<|q,.b 2<|e,.t 2<|z] rfl (by kernel_rfl)
 generalize ts++[tk k_if (iff3 t a b) h]=M at p ⊢;exact wkF [.d 0<|p,.c 4<|k] rfl (by kernel_rfl)
theorem st_if0{t a b h:D}(hu:ts.length≤Bm) :cF P (n+2) 40 (mS F m c (ts++[tk k_if (iff3 t a b) h])<|us++[.int 0])=mR F m c (ts++[lk b h]) us:=by
 have p:=pop_at ts<|tk k_if (iff3 t a b) h;have q:=pop_at us<|.int 0;have z:=szD hu;generalize us++[.int 0]=ys at q ⊢;have k:cF P (n+1) 38 (mS F m c ts ys++[.fz<|iff3 t a b,.fz h])=mR F m c (ts++[lk b h]) us:=by exact wkF [.d 0<|q,.t 5<|z] rfl (by kernel_rfl)
 generalize ts++[tk k_if (iff3 t a b) h]=M at p ⊢;exact wkF [.d 0<|p,.c 4<|k] rfl (by kernel_rfl)
theorem mcall_y{f:Str}{vs:aB}{ps body:D}{kvs:Env2}(hu:ts.length≤Bm)(hf:dgetL F f=some (.tuple [ps,body]))(hz:biD .dzip [ps,.list vs]=some (.ai<|.dict kvs))(hm:c+1≤m) :cF P (n+3) 39 (mS F m c ts us++[.fz<|.str f,.fz<|.list vs])=mR F m (c+1) (ts++[lk body<|.dict kvs]) us:=by
 have z:=szD hu;have e:cF P (n+2) 35 (mS F m (c+1) ts us++[.fz ps,.fz body,.fz<|.list vs])=mR F m (c+1) (ts++[lk body<|.dict kvs]) us:=by exact wkF [.v 0<|hz,.t 0<|z] rfl (by kernel_rfl)
 have g:cmpD .gt (.int<|c+1) (.int m)=some false:=by rw[c_gt];exact congrArg some<|decide_eq_false<|Int.not_lt.mpr hm
 have i:idxD (.dict F) (.str f)=some (.tuple [ps,body]):=hf;exact wkF [.b 1<|g,.d 1<|i,.c 0<|e] rfl (by kernel_rfl)
theorem mcall_n{f:Str}{vs:aB}(hm:¬c+1≤m) :cF P (n+3) 39 (mS F m c ts us++[.fz<|.str f,.fz<|.list vs])=mE x_TooLong F m (c+1) ts us:=by
 have g:cmpD .gt (.int<|c+1) (.int m)=some true:=by rw[c_gt];exact congrArg some<|decide_eq_true<|Int.not_le.mp hm
 exact wkF [.b 1<|g] rfl (by kernel_rfl)
section
variable {us':aB}{f:Str}{as vs:aB}{h:D}
theorem st_cy{k:Int}{ts':aB}(ht:biD .len [.tuple as]=some (.fz<|.int k))(t:cF P (n+3) 37 (mS F m c ts us'++[.fz<|.int k])=some (.ok<|.fz<|.list vs,mS F m c ts us))(q:cF P (n+3) 39 (mS F m c ts us++[.fz<|.str f,.fz<|.list vs])=mR F m (c+1) ts' us) :cF P (n+4) 40 (mS F m c (ts++[tk k_call (cal f as) h]) us')=mR F m (c+1) ts' us:=by have p:=pop_at ts<|tk k_call (cal f as) h;generalize ts++[tk k_call (cal f as) h]=M at p ⊢;exact wkF [.d 0<|p,.v 8<|ht,.c 0<|t,.c 0<|q] rfl (by kernel_rfl)
theorem st_cn{k:Int}(ht:biD .len [.tuple as]=some (.fz<|.int k))(t:cF P (n+3) 37 (mS F m c ts us'++[.fz<|.int k])=some (.ok<|.fz<|.list vs,mS F m c ts us))(q:cF P (n+3) 39 (mS F m c ts us++[.fz<|.str f,.fz<|.list vs])=mE x_TooLong F m (c+1) ts us) :cF P (n+4) 40 (mS F m c (ts++[tk k_call (cal f as) h]) us')=mE x_TooLong F m (c+1) ts us:=by have p:=pop_at ts<|tk k_call (cal f as) h;generalize ts++[tk k_call (cal f as) h]=M at p ⊢;exact wkF [.d 0<|p,.v 8<|ht,.c 0<|t,.c 0<|q] rfl (by kernel_rfl)
end
end
end Lq
end
section
namespace Lq
open PySem Mv
noncomputable abbrev rT:Ex:=.cmp .nel (.pl<|.var 9)<|.list []
noncomputable abbrev rB:List St:=[.mst 40 [3,4,5,6,7,8,9,10] [8] []]
noncomputable abbrev rF(pg inp:D)(F:Env2)(m c:Int)(ts us:aB) :List Mv.Slot:=[.fz pg,.fz inp,.fz<|.int m]++mS F m c ts us
theorem nel_at(ts:aB)(t:D) :cmpD .nel (.list<|ts++[t]) (.list [])=some true:=by
 show some (!(ts++[t]).isEmpty)=_
 cases ts <;> rfl
section
variable (N:Nat)(pg inp:D)(F:Env2)(m:Int)
noncomputable def Fin:aA Int→aA Ctl×List Mv.Slot→Prop
 | .ok v,R=> ∃c,R=(.ok .next,rF pg inp F m c [] [.int v])
 | .error e,R=> ∃c ts us,R=(.error e,rF pg inp F m c ts us)
noncomputable def Wr(c:Int)(ts us:aB)(j:Nat)(r:aA Int) :Prop:= ∃R,whB (cf N) (rF pg inp F m c ts us) rT rB [] j=some R∧Fin pg inp F m r R
variable {N pg inp F m}{c c':Int}{ts ts' us us':aB}{j:Nat}{r:aA Int}
theorem W_done{v:Int} :Wr N pg inp F m c [] [.int v] (j+1) (.ok v):=by refine⟨_,?_,c,rfl⟩;exact wkW [] rfl (by kernel_rfl)
theorem W_step{t:D}(H:cF P N 40 (mS F m c (ts++[t]) us)=mR F m c' ts' us')(h:Wr N pg inp F m c' ts' us' j r) :Wr N pg inp F m c (ts++[t]) us (j+1) r:=by obtain⟨R,g,f⟩:=h;refine⟨R,?_,f⟩;have q:=nel_at ts t;generalize ts++[t]=M at H q ⊢;exact wkW [.b 0<|q,.c 1<|H,.lp 0<|g] rfl (by kernel_rfl)
theorem W_err{t:D}{e:Str}(H:cF P N 40 (mS F m c (ts++[t]) us)=mE e F m c' ts' us') :Wr N pg inp F m c (ts++[t]) us (j+1) (.error e):=by
 have g:whB (cf N) (rF pg inp F m c (ts++[t]) us) rT rB [] (j+1)=some (.error e,rF pg inp F m c' ts' us'):=by have q:=nel_at ts t;generalize ts++[t]=M at H q ⊢;exact wkW [.b 0<|q,.c 1<|H] rfl (by kernel_rfl)
 exact⟨_,g,_,_,_,rfl⟩
theorem wj{j':Nat}(e:j=j')(w:Wr N pg inp F m c ts us j' r) :Wr N pg inp F m c ts us j r:=e▸w
end
section
variable (n:Nat)(pg inp:D)(F:Env2)(m:Int)
noncomputable def Cn(c:Int)(ts us:aB)(j:Nat)(rr:aA Int) :aA Int→Prop
 | .ok v=>Wr (n+6) pg inp F m c ts (us++[.int v]) j rr
 | .error x=>rr = .error x
noncomputable def Ev(B:Nat)(h e:D)(k:Nat)(r:aA Int)(K:Nat) :Prop:= ∀(c:Int)(ts us:aB)(j:Nat)(rr:aA Int),ts.length≤B→us.length≤B→c≤m→
 (c+(k:Nat)≤m→Cn n pg inp F m (c+(k:Nat)) ts us j rr r)→(¬c+(k:Nat)≤m→rr = .error x_TooLong)→Wr (n+6) pg inp F m c (ts++[lk e h]) us (j+K) rr
variable {n pg inp F m}
theorem ln1{l:aB}{a:D}{k:Nat}(h:l.length≤k) :(l++[a]).length≤k+1:=by rw[List.length_append];exact Nat.succ_le_succ h
variable {B K ka kb:Nat}{h a b:D}{va vb v:Int}{na nb:Nat}{r:aA Int}
theorem Ev.le{B':Nat}{e:D}{k:Nat}(E:Ev n pg inp F m B' h e k r K)(q:B≤B') :Ev n pg inp F m B h e k r K:=fun c ts us j rr ht hu=>E c ts us j rr (Nat.le_trans ht q)<|Nat.le_trans hu q
theorem z0(c:Int) :c+((0:Nat) :Int)=c:=Int.add_zero c
theorem Ev_val(hB:B≤Bm) :Ev n pg inp F m B h (val<|.int v) 0 (.ok v) 1:=fun c ts us j rr ht hu hc w j0_=>by have w:=w (by rw[z0];exact hc);rw[z0]at w;exact W_step (st_look (n+4) F m c ts us<|lk_val (n+4) F m c ts us (.int v) h<|Nat.le_trans hu hB) w
theorem Ev_nam{x:Str}(i:idxD h (.str x)=some (.int v))(hB:B≤Bm) :Ev n pg inp F m B h (nam x) 0 (.ok v) 1:=fun c ts us j rr ht hu hc w j0_=>by have w:=w (by rw[z0];exact hc);rw[z0]at w;exact W_step (st_look (n+4) F m c ts us<|lk_nam (n+4) F m c ts us i<|Nat.le_trans hu hB) w
theorem Ev_two{e:D}{t:D}{k:Nat}{T:Nat}(hB:B+2≤Bm)(A:Ev n pg inp F m (B+2) h a na (.ok va) ka)(E:Ev n pg inp F m (B+2) h b nb (.ok vb) kb)(L:∀(c:Int)(ts us:aB),ts.length≤Bm→cF P (n+5) 36 (mS F m c ts us++[.fz e,.fz h])=mR F m c (((ts++[t])++[lk b h])++[lk a h]) us)
  (ag:∀(c:Int)(ts us:aB)(j:Nat)(rr:aA Int),ts.length≤B→us.length≤B→c≤m→(c+(k:Nat)≤m→Cn n pg inp F m (c+(k:Nat)) ts us j rr r)→(¬c+(k:Nat)≤m→rr = .error x_TooLong)→Wr (n+6) pg inp F m c (ts++[t]) ((us++[.int va])++[.int vb]) (j+T) rr) :
  Ev n pg inp F m B h e (na+nb+k) r (T+kb+ka+1):=fun c ts us j rr ht hu hc w x=>by
 have b1:B≤Bm:=Nat.le_trans (Nat.le_add_right _ 2) hB;refine wj (j':=j+T+kb+ka+1) (by exact(Nat.le_antisymm (lin [j,T,kb,ka] [] 1 (.nle (.a (.v 0)<|.a (.a (.a (.v 1)<|.v 2)<|.v 3)<|.c 1)<|.a (.a (.a (.a (.v 0)<|.v 1)<|.v 2)<|.v 3)<|.c 1) [] rfl)<|lin [j,T,kb,ka] [] 1 (.nle (.a (.a (.a (.a (.v 0)<|.v 1)<|.v 2)<|.v 3)<|.c 1)<|.a (.v 0)<|.a (.a (.a (.v 1)<|.v 2)<|.v 3)<|.c 1) [] rfl))<|W_step (st_look (n+4) F m c ts us<|L c ts us<|Nat.le_trans ht b1) ?_;refine A c _ us (j+T+kb) rr (Nat.le_trans (ln1<|ln1 ht)<|Nat.le_refl _) (Nat.le_trans hu<|Nat.le_add_right _ 2) hc (fun hA=>?_) fun hA=>x (by omega);refine E _ _ _ (j+T) rr (Nat.le_trans (ln1 ht)<|Nat.le_succ _) (Nat.le_trans (ln1 hu)<|Nat.le_succ _) hA (fun hE=>?_) fun hE=>x (by omega);refine ag _ ts us j rr ht hu hE (fun hX=>?_) fun hX=>x (by omega);have w:=w (by omega);rwa [show c+((na+nb+k:Nat) :Int)=c+(na:Nat)+(nb:Nat)+(k:Nat) by omega]at w
theorem Ev_do2{op:Str}(hB:B+2≤Bm)(A:Ev n pg inp F m (B+2) h a na (.ok va) ka)(E:Ev n pg inp F m (B+2) h b nb (.ok vb) kb)(d:cF P (n+5) 8 (dnA op va vb)=okD (.int v)) :Ev n pg inp F m B h (doo op [a,b]) (na+nb+0) (.ok v) (1+kb+ka+1):=
 Ev_two hB A E (fun c ts us ht=>lk_do2 (n+4) F m c ts us op a b h ht) fun c ts us j rr ht hu hc w j0_=>by have w:=w (by rw[z0];exact hc);rw[z0]at w;exact W_step (st_do2 (va:=.int va) (vb:=.int vb) (r:=.int v) n F m c ts us (Nat.le_trans hu<|Nat.le_trans (Nat.le_add_right _ 2) hB) d) w
theorem Ev_do2E{op x:Str}(hB:B+2≤Bm)(A:Ev n pg inp F m (B+2) h a na (.ok va) ka)(E:Ev n pg inp F m (B+2) h b nb (.ok vb) kb)(d:cF P (n+5) 8 (dnA op va vb)=erS x) :Ev n pg inp F m B h (doo op [a,b]) (na+nb+0) (.error x) (1+kb+ka+1):=
 Ev_two hB A E (fun c ts us ht=>lk_do2 (n+4) F m c ts us op a b h ht) fun c ts us j rr ht hu hc w j0_=>by rw[show rr = .error x from w (by rw[z0];exact hc)];exact W_err<|st_do2E (va:=.int va) (vb:=.int vb) n F m c ts us d
theorem Ev_do2x{op x:Str}(hB:B+2≤Bm)(A:Ev n pg inp F m (B+2) h a na (.ok va) ka)(E:Ev n pg inp F m (B+2) h b nb (.error x) kb) :Ev n pg inp F m B h (doo op [a,b]) (na+nb) (.error x) (kb+ka+1):=fun c ts us j rr ht hu hc w y=>by have b1:B≤Bm:=Nat.le_trans (Nat.le_add_right _ 2) hB;refine wj (j':=j+kb+ka+1) (by exact(Nat.le_antisymm (lin [j,kb,ka] [] 1 (.nle (.a (.v 0)<|.a (.a (.v 1)<|.v 2)<|.c 1)<|.a (.a (.a (.v 0)<|.v 1)<|.v 2)<|.c 1) [] rfl)<|lin [j,kb,ka] [] 1 (.nle (.a (.a (.a (.v 0)<|.v 1)<|.v 2)<|.c 1)<|.a (.v 0)<|.a (.a (.v 1)<|.v 2)<|.c 1) [] rfl))<|W_step (st_look (n+4) F m c ts us<|lk_do2 (n+4) F m c ts us op a b h<|Nat.le_trans ht b1) ?_;refine A c _ us (j+kb) rr (Nat.le_trans (ln1<|ln1 ht)<|Nat.le_refl _) (Nat.le_trans hu<|Nat.le_add_right _ 2) hc (fun hA=>?_) fun hA=>y (by omega);refine E _ _ _ j rr (Nat.le_trans (ln1 ht)<|Nat.le_succ _) (Nat.le_trans (ln1 hu)<|Nat.le_succ _) hA (fun hE=>?_) fun hE=>y (by omega);exact w (by omega)
theorem Ev_do2y{op x:Str}(hB:B+2≤Bm)(A:Ev n pg inp F m (B+2) h a na (.error x) ka) :Ev n pg inp F m B h (doo op [a,b]) na (.error x) (ka+1):=fun c ts us j rr ht hu hc w y=>by have b1:B≤Bm:=Nat.le_trans (Nat.le_add_right _ 2) hB;exact wj (j':=j+ka+1) (by exact(Nat.le_antisymm (lin [j,ka] [] 1 (.nle (.a (.v 0)<|.a (.v 1)<|.c 1)<|.a (.a (.v 0)<|.v 1)<|.c 1) [] rfl)<|lin [j,ka] [] 1 (.nle (.a (.a (.v 0)<|.v 1)<|.c 1)<|.a (.v 0)<|.a (.v 1)<|.c 1) [] rfl))<|W_step (st_look (n+4) F m c ts us<|lk_do2 (n+4) F m c ts us op a b h<|Nat.le_trans ht b1)<|A c _ us j rr (Nat.le_trans (ln1<|ln1 ht)<|Nat.le_refl _) (Nat.le_trans hu<|Nat.le_add_right _ 2) hc w y
theorem Ev_do1{op:Str}(hB:B+1≤Bm)(A:Ev n pg inp F m (B+1) h a na (.ok va) ka)(d:cF P (n+5) 8 [.fz<|.str op,.fz<|.list [.int va]]=okD (.int v)) :Ev n pg inp F m B h (doo op [a]) na (.ok v) (ka+2):=fun c ts us j rr ht hu hc w x=>by have b1:B≤Bm:=Nat.le_trans (Nat.le_succ _) hB;refine wj (j':=j+1+ka+1) (by exact(Nat.le_antisymm (lin [j,ka] [] 1 (.nle (.a (.v 0)<|.a (.v 1)<|.c 2)<|.a (.a (.a (.v 0)<|.c 1)<|.v 1)<|.c 1) [] rfl)<|lin [j,ka] [] 1 (.nle (.a (.a (.a (.v 0)<|.c 1)<|.v 1)<|.c 1)<|.a (.v 0)<|.a (.v 1)<|.c 2) [] rfl))<|W_step (st_look (n+4) F m c ts us<|lk_do1 (n+4) F m c ts us op a h<|Nat.le_trans ht b1) ?_;exact A c _ us (j+1) rr (ln1 ht) (Nat.le_succ_of_le hu) hc (fun hA=>W_step (st_do1 (va:=.int va) (r:=.int v) n F m _ ts us (Nat.le_trans hu b1) d)<|w hA) x
theorem C_any{f:Str}{ps body hd:D}{kvs:Env2}{as vs us':aB}{kl:Int}{k:Nat}{c:Int}{ts us:aB}{j:Nat}{rr:aA Int}(hB:B≤Bm)(hf:dgetL F f=some (.tuple [ps,body]))(hz:biD .dzip [ps,.list vs]=some (.ai<|.dict kvs))(E:Ev n pg inp F m B (.dict kvs) body k r K)(hl:biD .len [.tuple as]=some (.fz<|.int kl))(t:cF P (n+5) 37 (mS F m c ts us'++[.fz<|.int kl])=some (.ok<|.fz<|.list vs,mS F m c ts us))
  (ht:ts.length≤B) (hu:us.length≤B) (hc:c≤m) (w:c+((k+1:Nat) :Int)≤m→Cn n pg inp F m (c+((k+1:Nat) :Int)) ts us j rr r) (x:¬c+((k+1:Nat) :Int)≤m→rr = .error x_TooLong) :Wr (n+6) pg inp F m c (ts++[tk k_call (cal f as) hd]) us' (j+(K+1)) rr:=by
 by_cases q:c+1≤m
 .refine wj (j':=j+K+1) rfl (W_step (st_cy (n+2) F m c ts us hl t<|mcall_y (n+2) F m c ts us (Nat.le_trans ht hB) hf hz q)<|E (c+1) ts us j rr ht hu q (fun hE=>?_) fun hE=>x (by omega));have w:=w (by omega);rwa [show c+((k+1:Nat) :Int)=c+1+(k:Nat) by omega]at w
 .rw[x (by omega)];exact wj (j':=j+K+1) rfl<|W_err<|st_cn (n+2) F m c ts us hl t<|mcall_n (n+2) F m c ts us q
theorem Ev_call2{f:Str}{ps body:D}{kvs:Env2}{k:Nat}(hB:B+2≤Bm)(A:Ev n pg inp F m (B+2) h a na (.ok va) ka)(A':Ev n pg inp F m (B+2) h b nb (.ok vb) kb)(hf:dgetL F f=some (.tuple [ps,body]))(hz:biD .dzip [ps,.list [.int va,.int vb]]=some (.ai<|.dict kvs))(E:Ev n pg inp F m B (.dict kvs) body k r K) :Ev n pg inp F m B h (cal f [a,b]) (na+nb+(k+1)) r (K+1+kb+ka+1):=
 Ev_two hB A A' (fun c ts us ht=>lk_cal2 (n+4) F m c ts us f a b h ht) fun c ts us j rr ht hu hc w x=>C_any (Nat.le_trans (Nat.le_add_right _ 2) hB) hf hz E rfl (taken2 (n+4) F m c ts us (.int va)<|.int vb) ht hu hc w x
theorem Ev_call2y{f x:Str}(hB:B+2≤Bm)(A:Ev n pg inp F m (B+2) h a na (.error x) ka) :Ev n pg inp F m B h (cal f [a,b]) na (.error x) (ka+1):=fun c ts us j rr ht hu hc w y=>by have b1:B≤Bm:=Nat.le_trans (Nat.le_add_right _ 2) hB;exact wj (j':=j+ka+1) (by exact(Nat.le_antisymm (lin [j,ka] [] 1 (.nle (.a (.v 0)<|.a (.v 1)<|.c 1)<|.a (.a (.v 0)<|.v 1)<|.c 1) [] rfl)<|lin [j,ka] [] 1 (.nle (.a (.a (.v 0)<|.v 1)<|.c 1)<|.a (.v 0)<|.a (.v 1)<|.c 1) [] rfl))<|W_step (st_look (n+4) F m c ts us<|lk_cal2 (n+4) F m c ts us f a b h<|Nat.le_trans ht b1)<|A c _ us j rr (Nat.le_trans (ln1<|ln1 ht)<|Nat.le_refl _) (Nat.le_trans hu<|Nat.le_add_right _ 2) hc w y
theorem Ev_call1{f:Str}{ps body:D}{kvs:Env2}{k:Nat}(hB:B+1≤Bm)(A:Ev n pg inp F m (B+1) h a na (.ok va) ka)(hf:dgetL F f=some (.tuple [ps,body]))(hz:biD .dzip [ps,.list [.int va]]=some (.ai<|.dict kvs))(E:Ev n pg inp F m B (.dict kvs) body k r K) :Ev n pg inp F m B h (cal f [a]) (na+(k+1)) r (K+1+ka+1):=fun c ts us j rr ht hu hc w x=>by have b1:B≤Bm:=Nat.le_trans (Nat.le_succ _) hB;refine wj (j':=j+(K+1)+ka+1) (by exact(Nat.le_antisymm (lin [j,K,ka] [] 1 (.nle (.a (.v 0)<|.a (.a (.a (.v 1)<|.c 1)<|.v 2)<|.c 1)<|.a (.a (.a (.v 0)<|.a (.v 1)<|.c 1)<|.v 2)<|.c 1) [] rfl)<|lin [j,K,ka] [] 1 (.nle (.a (.a (.a (.v 0)<|.a (.v 1)<|.c 1)<|.v 2)<|.c 1)<|.a (.v 0)<|.a (.a (.a (.v 1)<|.c 1)<|.v 2)<|.c 1) [] rfl))<|W_step (st_look (n+4) F m c ts us<|lk_cal1 (n+4) F m c ts us f a h<|Nat.le_trans ht b1) ?_;refine A c _ us (j+(K+1)) rr (ln1 ht) (Nat.le_succ_of_le hu) hc (fun hA=>?_) fun hA=>x (by omega);refine C_any b1 hf hz E rfl (taken1 (n+4) F m _ ts us<|.int va) ht hu hA (fun hX=>?_) fun hX=>x (by omega);have w:=w (by omega);rwa [show c+((na+(k+1) :Nat) :Int)=c+(na:Nat)+((k+1:Nat) :Int) by omega]at w
theorem Ev_call0{f:Str}{ps body:D}{kvs:Env2}{k:Nat}(hB:B≤Bm)(hf:dgetL F f=some (.tuple [ps,body]))(hz:biD .dzip [ps,.list []]=some (.ai<|.dict kvs))(E:Ev n pg inp F m B (.dict kvs) body k r K) :Ev n pg inp F m B h (cal f []) (k+1) r (K+1+1):=fun c ts us j rr ht hu hc w x=>
 wj (j':=j+(K+1)+1) (by exact(Nat.le_antisymm (lin [j,K] [] 1 (.nle (.a (.v 0)<|.a (.a (.v 1)<|.c 1)<|.c 1)<|.a (.a (.v 0)<|.a (.v 1)<|.c 1)<|.c 1) [] rfl)<|lin [j,K] [] 1 (.nle (.a (.a (.v 0)<|.a (.v 1)<|.c 1)<|.c 1)<|.a (.v 0)<|.a (.a (.v 1)<|.c 1)<|.c 1) [] rfl)) (W_step (st_look (n+4) F m c ts us<|lk_cal0 (n+4) F m c ts us f h<|Nat.le_trans ht hB)<|C_any hB hf hz E rfl (taken0 (n+4) F m c ts us) ht hu hc w x)
theorem Ev_ifT{t:D}{k:Nat}(hB:B+1≤Bm)(hv:v≠0)(A:Ev n pg inp F m (B+1) h t na (.ok v) ka)(E:Ev n pg inp F m B h a k r K) :Ev n pg inp F m B h (iff3 t a b) (na+k) r (K+1+ka+1):=fun c ts us j rr ht hu hc w x=>by have b1:B≤Bm:=Nat.le_trans (Nat.le_succ _) hB;refine wj (j':=j+(K+1)+ka+1) (by exact(Nat.le_antisymm (lin [j,K,ka] [] 1 (.nle (.a (.v 0)<|.a (.a (.a (.v 1)<|.c 1)<|.v 2)<|.c 1)<|.a (.a (.a (.v 0)<|.a (.v 1)<|.c 1)<|.v 2)<|.c 1) [] rfl)<|lin [j,K,ka] [] 1 (.nle (.a (.a (.a (.v 0)<|.a (.v 1)<|.c 1)<|.v 2)<|.c 1)<|.a (.v 0)<|.a (.a (.a (.v 1)<|.c 1)<|.v 2)<|.c 1) [] rfl))<|W_step (st_look (n+4) F m c ts us<|lk_if (n+4) F m c ts us t a b h<|Nat.le_trans ht b1) ?_;refine A c _ us (j+(K+1)) rr (ln1 ht) (Nat.le_succ_of_le hu) hc (fun hA=>?_) fun hA=>x (by omega);refine wj (j':=j+K+1) rfl<|W_step (st_ifT (n+4) F m _ ts us hv<|Nat.le_trans ht b1)<|E _ ts us j rr ht hu hA (fun hE=>?_) fun hE=>x (by omega);have w:=w (by omega);rwa [show c+((na+k:Nat) :Int)=c+(na:Nat)+(k:Nat) by omega]at w
theorem Ev_if0{t:D}{k:Nat}(hB:B+1≤Bm)(A:Ev n pg inp F m (B+1) h t na (.ok 0) ka)(E:Ev n pg inp F m B h b k r K) :Ev n pg inp F m B h (iff3 t a b) (na+k) r (K+1+ka+1):=fun c ts us j rr ht hu hc w x=>by have b1:B≤Bm:=Nat.le_trans (Nat.le_succ _) hB;refine wj (j':=j+(K+1)+ka+1) (by exact(Nat.le_antisymm (lin [j,K,ka] [] 1 (.nle (.a (.v 0)<|.a (.a (.a (.v 1)<|.c 1)<|.v 2)<|.c 1)<|.a (.a (.a (.v 0)<|.a (.v 1)<|.c 1)<|.v 2)<|.c 1) [] rfl)<|lin [j,K,ka] [] 1 (.nle (.a (.a (.a (.v 0)<|.a (.v 1)<|.c 1)<|.v 2)<|.c 1)<|.a (.v 0)<|.a (.a (.a (.v 1)<|.c 1)<|.v 2)<|.c 1) [] rfl))<|W_step (st_look (n+4) F m c ts us<|lk_if (n+4) F m c ts us t a b h<|Nat.le_trans ht b1) ?_;refine A c _ us (j+(K+1)) rr (ln1 ht) (Nat.le_succ_of_le hu) hc (fun hA=>?_) fun hA=>x (by omega);refine wj (j':=j+K+1) rfl<|W_step (st_if0 (n+4) F m _ ts us<|Nat.le_trans ht b1)<|E _ ts us j rr ht hu hA (fun hE=>?_) fun hE=>x (by omega);have w:=w (by omega);rwa [show c+((na+k:Nat) :Int)=c+(na:Nat)+(k:Nat) by omega]at w
end
end Lq
end
section
namespace Lq
open PySem Mv
theorem dg_c(k:Str)(d:D)(r:Env2)(x:Str) :dgetL ((.str k,d)::r) x=if k=x then some d else dgetL r x:=rfl
theorem dget_no{A B:Env2}{x:Str}(h:dgetL A x=none) :dgetL (A++B) x=dgetL B x:=by induction A with
 | nil=>rfl
 | cons p A ih=>obtain⟨k,d⟩:=p;cases k with
  | str k=>
   rw[List.cons_append,dg_c];rw[dg_c]at h;by_cases q:k=x
   .rw[if_pos q]at h;exact nomatch h
   .rw[if_neg q]at h ⊢;exact ih h
  | _=>exact ih h
theorem dget_so{A B:Env2}{x:Str}{v:D}(h:dgetL A x=some v) :dgetL (A++B) x=some v:=by induction A with
 | nil=>exact nomatch h
 | cons p A ih=>obtain⟨k,d⟩:=p;cases k with
  | str k=>
   rw[List.cons_append,dg_c];rw[dg_c]at h;by_cases q:k=x
   .rw[if_pos q]at h ⊢;exact h
   .rw[if_neg q]at h ⊢;exact ih h
  | _=>exact ih h
section
variable (oth:D)(R:Nat→D)
noncomputable def fN(k:Nat) :Env2:=(List.range k).map fun i=>(.str<|nmS i,.tuple [oth,R i])
theorem fN_succ(k:Nat) :fN oth R (k+1)=fN oth R k++[(.str<|nmS k,.tuple [oth,R k])]:=by unfold fN;rw[List.range_succ,List.map_append];rfl
theorem fN_len(k:Nat) :(fN oth R k).length=k:=by unfold fN;rw[List.length_map,List.length_range]
theorem fN_ge:∀(k i:Nat),k≤i→i<400→dgetL (fN oth R k) (nmS i)=none:=by intro k;induction k with
 | zero=>intro i _ _;rfl
 | succ k ih=>intro i h hi;rw[fN_succ,dget_no<|ih i (Nat.le_of_succ_le h) hi,dg_c,if_neg<|nm_ne (by exact(fun mvo8=>(linF [k,i] [] [(1,.nle (.a (.v 0)<|.c 1)<|.v 1),(-1,.neq (.v 0)<|.v 1)] rfl h mvo8))) (by exact(lin [k,i] [] 1 (.nle (.a (.v 0)<|.c 1)<|.c 400) [(1,.nle (.a (.v 0)<|.c 1)<|.v 1),(1,.nle (.a (.v 1)<|.c 1)<|.c 400)] rfl h hi)) hi];rfl
theorem fN_lt:∀(k i:Nat),i<k→k≤400→dgetL (fN oth R k) (nmS i)=some (.tuple [oth,R i]):=by intro k;induction k with
 | zero=>intro i h;exact(Nat.not_lt_zero _ h).elim
 | succ k ih=>
  intro i h hk;rw[fN_succ];by_cases q:i<k
  .exact dget_so (ih i q (by exact(lin [k] [] 1 (.nle (.v 0)<|.c 400) [(1,.nle (.a (.v 0)<|.c 1)<|.c 400)] rfl hk)))
  .obtain rfl:i=k:=by exact(Nat.le_antisymm (lin [i,k] [] 1 (.nle (.v 0)<|.v 1) [(1,.nle (.a (.v 0)<|.c 1)<|.a (.v 1)<|.c 1)] rfl h)<|lin [k,i] [] 1 (.nle (.v 0)<|.v 1) [(1,.nle (.v 0)<|.v 1)] rfl<|Nat.not_lt.mp q)
   rw[dget_no<|fN_ge oth R i i (Nat.le_refl _) (by exact(lin [i] [] 1 (.nle (.a (.v 0)<|.c 1)<|.c 400) [(1,.nle (.a (.v 0)<|.c 1)<|.c 400)] rfl hk)),dg_c,if_pos rfl]
noncomputable abbrev iB:List St:=[.setI (.var 0) (.var 10)<|.tup [(.var 11),(.var 12)]]
noncomputable abbrev iF(A:Env2)(pg mm a b e:Mv.Slot) :List Mv.Slot:=[.ai<|.dict A,.no,.no,.no,.no,.no,.no,.no,pg,mm,a,b,e,.no]
theorem i_loop(N:Nat)(pg mm:Mv.Slot) :∀(d i:Nat)(a b e:Mv.Slot),i+d≤400→
  forB ⟨P.glob,cF P N,[1,2,3]⟩ (iF (fN oth R i) pg mm a b e) (.tup [10,11,12]) iB [10,11,12] ((List.range' i d).map fun i=>.tuple [.str<|nmS i,oth,R i])=some (.ok .next,iF (fN oth R<|i+d) pg mm .no .no .no):=by
 intro d;induction d with
 | zero=>intro i a b e _;show forB _ _ _ _ _ []=_;rw[forB_nil];rfl
 | succ d ih=>
  intro i a b e hi;have g:=ih (i+1) (.fz<|.str<|nmS i) (.fz oth) (.fz<|R i) (by exact(lin [i,d] [] 1 (.nle (.a (.a (.v 0)<|.c 1)<|.v 1)<|.c 400) [(1,.nle (.a (.v 0)<|.a (.v 1)<|.c 1)<|.c 400)] rfl hi));rw[show i+1+d=i+(d+1) by exact(Nat.le_antisymm (lin [i,d] [] 1 (.nle (.a (.a (.v 0)<|.c 1)<|.v 1)<|.a (.v 0)<|.a (.v 1)<|.c 1) [] rfl)<|lin [i,d] [] 1 (.nle (.a (.v 0)<|.a (.v 1)<|.c 1)<|.a (.a (.v 0)<|.c 1)<|.v 1) [] rfl)]at g;have s:setD (.dict<|fN oth R i) (.str<|nmS i) (.tuple [oth,R i])=some (.dict<|fN oth R<|i+1):=by
   show(if (fN oth R i).length<Sz then some (PyData.dict<|dsetL (fN oth R i) (nmS i)<|.tuple [oth,R i]) else none)=_
   rw[if_pos (by rw[fN_len];show i<16777216;exact(lin [i,d] [] 1 (.nle (.a (.v 0)<|.c 1)<|.c 16777216) [(1,.nle (.a (.v 0)<|.a (.v 1)<|.c 1)<|.c 400)] rfl hi))];unfold dsetL;rw[fN_ge oth R i i (Nat.le_refl _) (by exact(lin [i,d] [] 1 (.nle (.a (.v 0)<|.c 1)<|.c 400) [(1,.nle (.a (.v 0)<|.a (.v 1)<|.c 1)<|.c 400)] rfl hi)),fN_succ];rfl
  show forB ⟨P.glob,cF P N,[1,2,3]⟩ (iF (fN oth R i) pg mm a b e) (.tup [10,11,12]) iB [10,11,12] (.tuple [.str<|nmS i,oth,R i]::(List.range' (i+1) d).map fun i=>.tuple [.str<|nmS i,oth,R i])=_
  generalize fN oth R (i+1)=A' at g s;generalize fN oth R i=A at s ⊢;exact wkL [.d 0<|s,.lp 0<|g] rfl (by kernel_rfl)
theorem m_init(n k:Nat)(m:Int)(hk:k≤400) :cF P (n+1) 34 [.no,.no,.no,.no,.no,.no,.no,.no,.fz<|.tuple<|fsN oth R k,.fz<|.int m]=mR (fN oth R k) m 0 [] []:=by have g:=i_loop oth R n (.fz<|.tuple<|fsN oth R k) (.fz<|.int m) k 0 .no .no .no (by exact(lin [k] [] 1 (.nle (.a (.c 0)<|.v 0)<|.c 400) [(1,.nle (.v 0)<|.c 400)] rfl hk));rw[← List.range_eq_range',Nat.zero_add]at g;have g:forB ⟨P.glob,cF P n,[1,2,3]⟩ (iF [] (.fz<|.tuple<|fsN oth R k) (.fz<|.int m) .no .no .no) (.tup [10,11,12]) iB [10,11,12] (fsN oth R k)=_:=g;generalize fsN oth R k=E at g ⊢;exact wkF [.lp 2<|g] rfl (by kernel_rfl)
theorem enter_eq(n:Nat)(F:Env2)(m c:Int)(ps b inp:D)(kvs:Env2)(hz:biD .dzip [ps,inp]=some (.ai<|.dict kvs)) :cF P (n+1) 35 (mS F m c [] []++[.fz ps,.fz b,.fz inp])=mR F m c [lk b<|.dict kvs] []:=by exact wkF [.v 0<|hz] rfl (by kernel_rfl)
noncomputable abbrev resE:aA Int→Option (aA Rv×List Mv.Slot)
 | .ok v=>okD<|.int v
 | .error e=>erS e
noncomputable def outM(m:Int)(k:Nat)(r:aA Int) :aA Int:=if (k:Int)≤m then r else .error x_TooLong
variable {oth R}
theorem run_eq(n ah k K:Nat){inp:D}{kvs:Env2}{m:Int}{r:aA Int}(hM:ah<399)(hm:0≤m)(hK:K≤1000000)(hz:biD .dzip [oth,inp]=some (.ai<|.dict kvs))(E:Ev n (.tuple<|fsN oth R<|ah+1) inp (fN oth R<|ah+1) m 0 (.dict kvs) (R 0) k r K) :
  cF P (n+7) 16 [.fz<|.tuple<|fsN oth R<|ah+1,.fz inp,.fz<|.int m]=resE (outM m k r):=by
 have a:=m_init oth R (n+5) (ah+1) m (by exact(lin [ah] [] 1 (.nle (.a (.v 0)<|.c 1)<|.c 400) [(1,.nle (.a (.v 0)<|.c 1)<|.c 399)] rfl hM));have b:=enter_eq (n+5) (fN oth R<|ah+1) m 0 oth (R 0) inp kvs hz;have i0:idxD (.tuple<|fsN oth R<|ah+1) (.int 0)=some (.tuple [.str<|nmS 0,oth,R 0]):=by
  show(fsN oth R<|ah+1)[0]?=_
  unfold fsN;rw[List.getElem?_map,List.getElem?_range<|Nat.succ_pos ah];rfl
 have W:Wr (n+6) (.tuple<|fsN oth R<|ah+1) inp (fN oth R<|ah+1) m 0 ([]++[lk (R 0)<|.dict kvs]) [] (1208925819614629174706176 - K - 1+1+K) (outM m k r):=by refine E 0 [] [] (1208925819614629174706176 - K - 1+1) _ (Nat.le_refl _) (Nat.le_refl _) hm (fun h=>?_) fun h=>if_neg (by omega);rw[show outM m k r=r from if_pos (by omega)];cases r with
  | ok v=>exact W_done
  | error e=>exact rfl
 rw[show 1208925819614629174706176 - K - 1+1+K=1208925819614629174706176 by omega]at W;obtain⟨Q,g,f⟩:=W;have g:whB (cf<|n+6) (rF (.tuple<|fsN oth R<|ah+1) inp (fN oth R<|ah+1) m 0 [lk (R 0)<|.dict kvs] []) rT rB [] 1208925819614629174706176=some Q:=g;generalize fsN oth R (ah+1)=ag at a i0 g f ⊢;generalize outM m k r=ro at f ⊢;cases ro with
 | ok v=>
  obtain⟨c',rfl⟩:=f;show _=okD (.int v)
  exact wkF [.c 0<|a,.d 0<|i0,.d 1<|i0,.c 1<|b,.lp 0<|g] rfl (by kernel_rfl)
 | error e=>
  obtain⟨c',ts,us,rfl⟩:=f;show _=erS e
  exact wkF [.c 0<|a,.d 0<|i0,.d 1<|i0,.c 1<|b,.lp 0<|g] rfl (by kernel_rfl)
end
noncomputable abbrev s_long:D:=S [116,111,111,32,108,111,110,103]
noncomputable abbrev s_oth:D:=S [111,116,104,101,114]
theorem told_ok(n:Nat){l inp:D}{m v:Int}(h:cF P n 16 [.fz l,.fz inp,.fz<|.int m]=okD (.int v)) :cF P (n+1) 22 [.fz l,.fz inp,.fz<|.int m]=okD (.int v):=by exact wkF [.c 0<|h] rfl (by kernel_rfl)
theorem told_long(n:Nat){l inp:D}{m:Int}(h:cF P n 16 [.fz l,.fz inp,.fz<|.int m]=erS x_TooLong) :cF P (n+1) 22 [.fz l,.fz inp,.fz<|.int m]=okD s_long:=by exact wkF [.c 0<|h] rfl (by kernel_rfl)
theorem told_oth(n:Nat){l inp:D}{m:Int}(h:cF P n 16 [.fz l,.fz inp,.fz<|.int m]=erS x_TooGreat) :cF P (n+1) 22 [.fz l,.fz inp,.fz<|.int m]=okD s_oth:=by exact wkF [.c 0<|h] rfl (by kernel_rfl)
end Lq
end
section
namespace Lq
open PySem Mv
theorem Ev.k{n:Nat}{pg inp:D}{F:Env2}{m:Int}{B:Nat}{h e:D}{k k' K:Nat}{r:aA Int}(q:k=k')(E:Ev n pg inp F m B h e k r K) :Ev n pg inp F m B h e k' r K:=q▸E
noncomputable def EvX(n:Nat)(pg inp:D)(F:Env2)(m:Int)(B:Nat)(h e:D)(k:Nat)(r:aA Int)(b:Nat) :Prop:= ∃K,K≤b∧Ev n pg inp F m B h e k r K
theorem dz1(x:Str)(v:D) :biD .dzip [.tuple [.str x],.list [v]]=some (.ai<|.dict [(.str x,v)]):=rfl
theorem dz1t(x:Str)(v:D) :biD .dzip [.tuple [.str x],.tuple [v]]=some (.ai<|.dict [(.str x,v)]):=rfl
theorem dz0:biD .dzip [.tuple [],.list []]=some (.ai<|.dict []):=rfl
theorem dz2{x z:Str}(h:x≠z)(v w:D) :biD .dzip [.tuple [.str x,.str z],.list [v,w]]=some (.ai<|.dict [(.str x,v),(.str z,w)]):=by
 show(some<|dsetL [(.str x,v)] z w).map (fun kvs=>Rv.ai<|.dict kvs)=_
 unfold dsetL;rw[show dgetL [(.str x,v)] z=none from by rw[dg_c,if_neg h];rfl];rfl
theorem dz2t{x z:Str}(h:x≠z)(v w:D) :biD .dzip [.tuple [.str x,.str z],.tuple [v,w]]=some (.ai<|.dict [(.str x,v),(.str z,w)]):=dz2 h v w
noncomputable def pv(b:Int) :Nat→aA Int
 | 0=>.ok 1
 | d+1=>match pv b d with
  | .ok v=>if fitB (b*v)=true then .ok (b*v) else .error x_TooGreat
  | .error e=>.error e
section
variable {n:Nat}{pg inp:D}{m:Int}
theorem EvP{b:Str}{ah:Nat}{x:Int}(hM:ah<399)(hx:fitB x=true) :∀(d i B:Nat),i+d=ah→B+4*d+4≤Bm→EvX n pg inp (fN (.tuple [.str b]) (RP b ah)<|ah+1) m B (.dict [(.str b,.int x)]) (RP b ah i) d (pv x d) (8*d+1):=by intro d;induction d with
 | zero=>intro i B hi hB;rw[show RP b ah i=val (.int 1) from if_neg (by omega)];exact⟨1,Nat.le_refl _,Ev_val (by exact(lin [B] [] 1 (.nle (.v 0)<|.c 1000000) [(1,.nle (.a (.a (.v 0)<|.m 4<|.c 0)<|.c 4)<|.c 1000000)] rfl hB))⟩
 | succ d ih=>
  intro i B hi hB;rw[show RP b ah i=doo k_times [nam b,cal (nmS<|i+1) [nam b]] from if_pos (by omega)];obtain⟨K,hK,E⟩:=ih (i+1) (B+2) (by exact(Nat.le_antisymm (lin [i,d,ah] [] 1 (.nle (.a (.a (.v 0)<|.c 1)<|.v 1)<|.v 2) [(1,.neq (.a (.v 0)<|.a (.v 1)<|.c 1)<|.v 2)] rfl hi)<|lin [ah,i,d] [] 1 (.nle (.v 0)<|.a (.a (.v 1)<|.c 1)<|.v 2) [(-1,.neq (.a (.v 1)<|.a (.v 2)<|.c 1)<|.v 0)] rfl hi)) (by exact(lin [B,d] [] 1 (.nle (.a (.a (.a (.v 0)<|.c 2)<|.m 4<|.v 1)<|.c 4)<|.c 1000000) [(1,.nle (.a (.a (.v 0)<|.m 4<|.a (.v 1)<|.c 1)<|.c 4)<|.c 1000000)] rfl hB));have A:∀B,B≤Bm→Ev n pg inp (fN (.tuple [.str b]) (RP b ah)<|ah+1) m B (.dict [(.str b,.int x)]) (nam b) 0 (.ok x) 1:=fun B hB=>Ev_nam (dx1 _ _) hB;have C:=Ev_call1 (h:=.dict [(.str b,.int x)]) (B:=B+2) (by exact(lin [B,d] [] 1 (.nle (.a (.a (.v 0)<|.c 2)<|.c 1)<|.c 1000000) [(1,.nle (.a (.a (.v 0)<|.m 4<|.a (.v 1)<|.c 1)<|.c 4)<|.c 1000000)] rfl hB)) (A (B+2+1) (by exact(lin [B,d] [] 1 (.nle (.a (.a (.v 0)<|.c 2)<|.c 1)<|.c 1000000) [(1,.nle (.a (.a (.v 0)<|.m 4<|.a (.v 1)<|.c 1)<|.c 4)<|.c 1000000)] rfl hB))) (fN_lt _ _ (ah+1) (i+1) (by exact(lin [i,ah,d] [] 1 (.nle (.a (.a (.v 0)<|.c 1)<|.c 1)<|.a (.v 1)<|.c 1) [(1,.neq (.a (.v 0)<|.a (.v 2)<|.c 1)<|.v 1)] rfl hi)) (by exact(lin [ah] [] 1 (.nle (.a (.v 0)<|.c 1)<|.c 400) [(1,.nle (.a (.v 0)<|.c 1)<|.c 399)] rfl hM))) (dz1 b<|.int x) E;show EvX n pg inp _ m B _ _ (d+1) (match pv x d with
   | .ok v=>if fitB (x*v)=true then .ok (x*v) else .error x_TooGreat
   | .error e=>.error e) _
  cases q:pv x d with
  | error e=>rw[q]at C;exact⟨_,by show K+1+1+1+1+1≤_;exact(lin [K,d] [] 1 (.nle (.a (.a (.a (.a (.a (.v 0)<|.c 1)<|.c 1)<|.c 1)<|.c 1)<|.c 1)<|.a (.m 8<|.a (.v 1)<|.c 1)<|.c 1) [(1,.nle (.v 0)<|.a (.m 8<|.v 1)<|.c 1)] rfl hK),(Ev_do2x (by exact(lin [B,d] [] 1 (.nle (.a (.v 0)<|.c 2)<|.c 1000000) [(1,.nle (.a (.a (.v 0)<|.m 4<|.a (.v 1)<|.c 1)<|.c 4)<|.c 1000000)] rfl hB)) (A (B+2) (by exact(lin [B,d] [] 1 (.nle (.a (.v 0)<|.c 2)<|.c 1000000) [(1,.nle (.a (.a (.v 0)<|.m 4<|.a (.v 1)<|.c 1)<|.c 4)<|.c 1000000)] rfl hB))) C).k (by exact(Nat.le_antisymm (lin [d] [] 1 (.nle (.a (.c 0)<|.a (.c 0)<|.a (.v 0)<|.c 1)<|.a (.v 0)<|.c 1) [] rfl)<|lin [d] [] 1 (.nle (.a (.v 0)<|.c 1)<|.a (.c 0)<|.a (.c 0)<|.a (.v 0)<|.c 1) [] rfl))⟩
  | ok v=>
   rw[q]at C;show EvX n pg inp _ m B _ _ (d+1) (if fitB (x*v)=true then .ok (x*v) else .error x_TooGreat) _
   cases f:fitB (x*v) with
   | true=>rw[if_pos rfl];exact⟨_,by show 1+(K+1+1+1)+1+1≤_;exact(lin [K,d] [] 1 (.nle (.a (.a (.a (.c 1)<|.a (.a (.a (.v 0)<|.c 1)<|.c 1)<|.c 1)<|.c 1)<|.c 1)<|.a (.m 8<|.a (.v 1)<|.c 1)<|.c 1) [(1,.nle (.v 0)<|.a (.m 8<|.v 1)<|.c 1)] rfl hK),(Ev_do2 (by exact(lin [B,d] [] 1 (.nle (.a (.v 0)<|.c 2)<|.c 1000000) [(1,.nle (.a (.a (.v 0)<|.m 4<|.a (.v 1)<|.c 1)<|.c 4)<|.c 1000000)] rfl hB)) (A (B+2) (by exact(lin [B,d] [] 1 (.nle (.a (.v 0)<|.c 2)<|.c 1000000) [(1,.nle (.a (.a (.v 0)<|.m 4<|.a (.v 1)<|.c 1)<|.c 4)<|.c 1000000)] rfl hB))) C<|times_y n x v hx f).k (by exact(Nat.le_antisymm (lin [d] [] 1 (.nle (.a (.a (.c 0)<|.a (.c 0)<|.a (.v 0)<|.c 1)<|.c 0)<|.a (.v 0)<|.c 1) [] rfl)<|lin [d] [] 1 (.nle (.a (.v 0)<|.c 1)<|.a (.a (.c 0)<|.a (.c 0)<|.a (.v 0)<|.c 1)<|.c 0) [] rfl))⟩
   | false=>rw[if_neg Bool.false_ne_true];exact⟨_,by show 1+(K+1+1+1)+1+1≤_;exact(lin [K,d] [] 1 (.nle (.a (.a (.a (.c 1)<|.a (.a (.a (.v 0)<|.c 1)<|.c 1)<|.c 1)<|.c 1)<|.c 1)<|.a (.m 8<|.a (.v 1)<|.c 1)<|.c 1) [(1,.nle (.v 0)<|.a (.m 8<|.v 1)<|.c 1)] rfl hK),(Ev_do2E (by exact(lin [B,d] [] 1 (.nle (.a (.v 0)<|.c 2)<|.c 1000000) [(1,.nle (.a (.a (.v 0)<|.m 4<|.a (.v 1)<|.c 1)<|.c 4)<|.c 1000000)] rfl hB)) (A (B+2) (by exact(lin [B,d] [] 1 (.nle (.a (.v 0)<|.c 2)<|.c 1000000) [(1,.nle (.a (.a (.v 0)<|.m 4<|.a (.v 1)<|.c 1)<|.c 4)<|.c 1000000)] rfl hB))) C<|times_n n x v hx f).k (by exact(Nat.le_antisymm (lin [d] [] 1 (.nle (.a (.a (.c 0)<|.a (.c 0)<|.a (.v 0)<|.c 1)<|.c 0)<|.a (.v 0)<|.c 1) [] rfl)<|lin [d] [] 1 (.nle (.a (.v 0)<|.c 1)<|.a (.a (.c 0)<|.a (.c 0)<|.a (.v 0)<|.c 1)<|.c 0) [] rfl))⟩
noncomputable def sv(x:Int) :List Int→Int→aA Int×Nat
 | [],s=>(.ok s,0)
 | v::l,s=>if fitB (s*x)=true then(if fitB (s*x+v)=true then((sv x l<|s*x+v).1,(sv x l<|s*x+v).2+1) else(.error x_TooGreat,0)) else(.error x_TooGreat,0)
theorem sv_c(x:Int)(v:Int)(l:List Int)(s:Int) :sv x (v::l) s=if fitB (s*x)=true then(if fitB (s*x+v)=true then((sv x l<|s*x+v).1,(sv x l<|s*x+v).2+1) else(.error x_TooGreat,0)) else(.error x_TooGreat,0):=rfl
theorem EvS{b c:Str}(hbc:b≠c){rs:List Int}{x:Int}(hM:rs.length<399) :∀(l:List Int)(i:Nat)(s:Int),rs.drop i=l→i+l.length=rs.length→fitB s=true→EvX n pg inp (fN (.tuple [.str b,.str c]) (RS b c rs)<|rs.length+1) m 0 (.dict [(.str b,.int s),(.str c,.int x)]) (RS b c rs i) (sv x l s).2 (sv x l s).1 (12*l.length+12):=by intro l;induction l with
 | nil=>intro i s hd hi hs;have hi:i+0=rs.length:=hi;unfold RS;rw[List.getElem?_eq_none (by exact(lin [rs.length,i] [] 1 (.nle (.v 0)<|.v 1) [(-1,.neq (.a (.v 1)<|.c 0)<|.v 0)] rfl ‹i+[].length=rs.length›))];exact⟨1,by show 1≤12*0+12;decide,Ev_nam (if_pos rfl) (by decide)⟩
 | cons v l ih=>
  intro i s hd hi hs;have hi:i+(l.length+1)=rs.length:=hi;have hv:rs[i]?=some v:=by
   have:=congrArg (·[0]?) hd
   simpa using this
  have hl:rs.drop (i+1)=l:=by rw[← List.tail_drop,hd];rfl
  rw[show RS b c rs i=cal (nmS<|i+1) [gS b c v,nam c] by unfold RS;rw[hv]];have Xb:∀B,B≤Bm→Ev n pg inp (fN (.tuple [.str b,.str c]) (RS b c rs)<|rs.length+1) m B (.dict [(.str b,.int s),(.str c,.int x)]) (nam b) 0 (.ok s) 1:=fun B hB=>Ev_nam (if_pos rfl) hB;have Xc:∀B,B≤Bm→Ev n pg inp (fN (.tuple [.str b,.str c]) (RS b c rs)<|rs.length+1) m B (.dict [(.str b,.int s),(.str c,.int x)]) (nam c) 0 (.ok x) 1:=fun B hB=>Ev_nam (by show(if b=c then _ else if c=c then some _ else none)=_;rw[if_neg hbc,if_pos rfl]) hB;rw[sv_c];cases f:fitB (s*x) with
  | false=>rw[if_neg Bool.false_ne_true];have T:=Ev_do2E (op:=k_times) (B:=4) (by decide) (Xb 6 (by decide)) (Xc 6 (by decide))<|times_n n s x hs f;have G:=Ev_do2y (op:=k_plus) (b:=val<|.int v) (B:=2) (by decide) T;exact⟨_,by show 1+1+1+1+1+1≤12*(l.length+1)+12;exact(lin [l.length] [] 1 (.nle (.a (.a (.a (.a (.a (.c 1)<|.c 1)<|.c 1)<|.c 1)<|.c 1)<|.c 1)<|.a (.m 12<|.a (.v 0)<|.c 1)<|.c 12) [] rfl),(Ev_call2y (B:=0) (by decide) G).k rfl⟩
  | true=>rw[if_pos rfl];have T:=Ev_do2 (op:=k_times) (B:=4) (by decide) (Xb 6 (by decide)) (Xc 6 (by decide))<|times_y n s x hs f;cases g:fitB (s*x+v) with
   | false=>rw[if_neg Bool.false_ne_true];have G:=Ev_do2E (op:=k_plus) (B:=2) (by decide) T (Ev_val (v:=v) (by decide))<|plus_n n (s*x) v g;exact⟨_,by show 1+1+(1+1+1+1)+1+1≤12*(l.length+1)+12;exact(lin [l.length] [] 1 (.nle (.a (.a (.a (.a (.c 1)<|.c 1)<|.a (.a (.a (.c 1)<|.c 1)<|.c 1)<|.c 1)<|.c 1)<|.c 1)<|.a (.m 12<|.a (.v 0)<|.c 1)<|.c 12) [] rfl),(Ev_call2y (B:=0) (by decide) G).k rfl⟩
   | true=>rw[if_pos rfl];have G:=Ev_do2 (op:=k_plus) (B:=2) (by decide) T (Ev_val (v:=v) (by decide))<|plus_y n (s*x) v g;obtain⟨K,hK,E⟩:=ih (i+1) (s*x+v) hl (by exact(Nat.le_antisymm (lin [i,l.length,rs.length] [] 1 (.nle (.a (.a (.v 0)<|.c 1)<|.v 1)<|.v 2) [(1,.neq (.a (.v 0)<|.a (.v 1)<|.c 1)<|.v 2)] rfl ‹i+(v::l).length=rs.length›)<|lin [rs.length,i,l.length] [] 1 (.nle (.v 0)<|.a (.a (.v 1)<|.c 1)<|.v 2) [(-1,.neq (.a (.v 1)<|.a (.v 2)<|.c 1)<|.v 0)] rfl ‹i+(v::l).length=rs.length›)) g;exact⟨_,by show K+1+1+(1+1+(1+1+1+1)+1)+1≤12*(l.length+1)+12;exact(lin [K,l.length] [] 1 (.nle (.a (.a (.a (.a (.v 0)<|.c 1)<|.c 1)<|.a (.a (.a (.c 1)<|.c 1)<|.a (.a (.a (.c 1)<|.c 1)<|.c 1)<|.c 1)<|.c 1)<|.c 1)<|.a (.m 12<|.a (.v 1)<|.c 1)<|.c 12) [(1,.nle (.v 0)<|.a (.m 12<|.v 1)<|.c 12)] rfl hK),(Ev_call2 (B:=0) (by decide) G (Xc 2 (by decide)) (fN_lt _ _ (rs.length+1) (i+1) (by exact(lin [i,rs.length,l.length] [] 1 (.nle (.a (.a (.v 0)<|.c 1)<|.c 1)<|.a (.v 1)<|.c 1) [(1,.neq (.a (.v 0)<|.a (.v 2)<|.c 1)<|.v 1)] rfl ‹i+(v::l).length=rs.length›)) (by exact(lin [rs.length] [] 1 (.nle (.a (.v 0)<|.c 1)<|.c 400) [(1,.nle (.a (.v 0)<|.c 1)<|.c 399)] rfl hM))) (dz2 hbc _ _) E).k (by exact(Nat.le_antisymm (lin [(sv x l<|s*x+v).2] [] 1 (.nle (.a (.a (.a (.a (.a (.a (.c 0)<|.c 0)<|.c 0)<|.c 0)<|.c 0)<|.c 0)<|.a (.v 0)<|.c 1)<|.a (.v 0)<|.c 1) [] rfl)<|lin [(sv x l<|s*x+v).2] [] 1 (.nle (.a (.v 0)<|.c 1)<|.a (.a (.a (.a (.a (.a (.c 0)<|.c 0)<|.c 0)<|.c 0)<|.c 0)<|.c 0)<|.a (.v 0)<|.c 1) [] rfl))⟩
noncomputable def cv(dp:Bool)(d:Nat) :Int:=if dp=true then 7+d else 7
theorem fit_cv(d:Nat)(h:d≤100000) :fitB (1+(7+(d:Int)))=true:=by unfold fitB;rw[decide_eq_true (show -Gt<1+(7+(d:Int)) from by show -1000000000000000000<1+(7+(d:Int));omega),decide_eq_true (show 1+(7+(d:Int))<Gt from by show 1+(7+(d:Int))<1000000000000000000;omega)];rfl
theorem Ev_mc{F:Env2}{B:Nat}{h e:D}{d K b:Nat}(dp:Bool)(hd:d≤100000)(hB:B+2≤Bm)(hK:K≤b)(E0:Ev n pg inp F m (B+2) h e (d+1) (.ok<|cv dp d) K) :EvX n pg inp F m B h (mC dp e) (d+1) (.ok<|cv dp<|d+1) (b+3):=by cases dp with
 | true=>
  have G:=Ev_do2 (op:=k_plus) (v:=1+(7+(d:Int))) hB (Ev_val (v:=1) (by exact hB)) E0<|plus_y n 1 (7+(d:Int))<|fit_cv d hd;have e:cv true (d+1)=1+(7+(d:Int)):=by show 7+((d+1:Nat) :Int)=_;omega
  rw[e];exact⟨_,by show 1+K+1+1≤b+3;exact(lin [K,b] [] 1 (.nle (.a (.a (.a (.c 1)<|.v 0)<|.c 1)<|.c 1)<|.a (.v 1)<|.c 3) [(1,.nle (.v 0)<|.v 1)] rfl hK),G.k (by exact(Nat.le_antisymm (lin [d] [] 1 (.nle (.a (.a (.c 0)<|.a (.v 0)<|.c 1)<|.c 0)<|.a (.v 0)<|.c 1) [] rfl)<|lin [d] [] 1 (.nle (.a (.v 0)<|.c 1)<|.a (.a (.c 0)<|.a (.v 0)<|.c 1)<|.c 0) [] rfl))⟩
 | false=>exact⟨K,by exact(lin [K,b] [] 1 (.nle (.v 0)<|.a (.v 1)<|.c 3) [(1,.nle (.v 0)<|.v 1)] rfl hK),E0.le (by exact(lin [B] [] 1 (.nle (.v 0)<|.a (.v 0)<|.c 2) [] rfl))⟩
theorem EvC{ah:Nat}(dp:Bool)(hM:ah<399) :∀(d i B:Nat),i+d=ah→B+4*d+4≤Bm→EvX n pg inp (fN (.tuple []) (RC ah dp)<|ah+1) m B (.dict []) (RC ah dp i) d (.ok<|cv dp d) (8*d+1):=by intro d;induction d with
 | zero=>intro i B hi hB;rw[show RC ah dp i=val (.int 7) from if_neg (by omega),show cv dp 0=7 by cases dp <;> rfl];exact⟨1,Nat.le_refl _,Ev_val (by exact(lin [B] [] 1 (.nle (.v 0)<|.c 1000000) [(1,.nle (.a (.a (.v 0)<|.m 4<|.c 0)<|.c 4)<|.c 1000000)] rfl hB))⟩
 | succ d ih=>intro i B hi hB;rw[show RC ah dp i=mC dp (cal (nmS<|i+1) []) from if_pos (by omega)];obtain⟨K,hK,E⟩:=ih (i+1) (B+2) (by exact(Nat.le_antisymm (lin [i,d,ah] [] 1 (.nle (.a (.a (.v 0)<|.c 1)<|.v 1)<|.v 2) [(1,.neq (.a (.v 0)<|.a (.v 1)<|.c 1)<|.v 2)] rfl hi)<|lin [ah,i,d] [] 1 (.nle (.v 0)<|.a (.a (.v 1)<|.c 1)<|.v 2) [(-1,.neq (.a (.v 1)<|.a (.v 2)<|.c 1)<|.v 0)] rfl hi)) (by exact(lin [B,d] [] 1 (.nle (.a (.a (.a (.v 0)<|.c 2)<|.m 4<|.v 1)<|.c 4)<|.c 1000000) [(1,.nle (.a (.a (.v 0)<|.m 4<|.a (.v 1)<|.c 1)<|.c 4)<|.c 1000000)] rfl hB));have C:=Ev_call0 (h:=.dict []) (B:=B+2) (by exact(lin [B,d] [] 1 (.nle (.a (.v 0)<|.c 2)<|.c 1000000) [(1,.nle (.a (.a (.v 0)<|.m 4<|.a (.v 1)<|.c 1)<|.c 4)<|.c 1000000)] rfl hB)) (fN_lt _ _ (ah+1) (i+1) (by exact(lin [i,ah,d] [] 1 (.nle (.a (.a (.v 0)<|.c 1)<|.c 1)<|.a (.v 1)<|.c 1) [(1,.neq (.a (.v 0)<|.a (.v 2)<|.c 1)<|.v 1)] rfl hi)) (by exact(lin [ah] [] 1 (.nle (.a (.v 0)<|.c 1)<|.c 400) [(1,.nle (.a (.v 0)<|.c 1)<|.c 399)] rfl hM))) dz0 E;obtain⟨K',h',E'⟩:=Ev_mc dp (by exact(lin [d,ah,i] [] 1 (.nle (.v 0)<|.c 100000) [(1,.nle (.a (.v 1)<|.c 1)<|.c 399),(1,.neq (.a (.v 2)<|.a (.v 0)<|.c 1)<|.v 1)] rfl hM hi)) (by exact(lin [B,d] [] 1 (.nle (.a (.v 0)<|.c 2)<|.c 1000000) [(1,.nle (.a (.a (.v 0)<|.m 4<|.a (.v 1)<|.c 1)<|.c 4)<|.c 1000000)] rfl hB)) (Nat.le_refl _) C;exact⟨K',by exact(lin [K',d,K] [] 1 (.nle (.v 0)<|.a (.m 8<|.a (.v 1)<|.c 1)<|.c 1) [(1,.nle (.v 2)<|.a (.m 8<|.v 1)<|.c 1),(1,.nle (.v 0)<|.a (.a (.a (.v 2)<|.c 1)<|.c 1)<|.c 3)] rfl hK h'),E'⟩
theorem EvU{a:Str}(dp:Bool) :∀(d B:Nat),d≤2000→B+4*d+4≤Bm→EvX n pg inp (fN (.tuple [.str a]) (fun j0_=>RU a dp) 1) m B (.dict [(.str a,.int (d:Nat))]) (RU a dp) d (.ok<|cv dp d) (12*d+4):=by intro d;induction d with
 | zero=>intro B hd hB;rw[show cv dp 0=7 by cases dp <;> rfl];exact⟨_,by show 1+1+1+1≤_;decide,(Ev_if0 (B:=B) (na:=0) (k:=0) (by exact(lin [B] [] 1 (.nle (.a (.v 0)<|.c 1)<|.c 1000000) [(1,.nle (.a (.a (.v 0)<|.m 4<|.c 0)<|.c 4)<|.c 1000000)] rfl hB)) (Ev_nam (v:=0) (dx1 _ _) (by exact(lin [B] [] 1 (.nle (.a (.v 0)<|.c 1)<|.c 1000000) [(1,.nle (.a (.a (.v 0)<|.m 4<|.c 0)<|.c 4)<|.c 1000000)] rfl hB)))<|Ev_val (by exact(lin [B] [] 1 (.nle (.v 0)<|.c 1000000) [(1,.nle (.a (.a (.v 0)<|.m 4<|.c 0)<|.c 4)<|.c 1000000)] rfl hB))).k rfl⟩
 | succ d ih=>intro B hd hB;obtain⟨K,hK,E⟩:=ih (B+2) (by exact(lin [d] [] 1 (.nle (.v 0)<|.c 2000) [(1,.nle (.a (.v 0)<|.c 1)<|.c 2000)] rfl hd)) (by exact(lin [B,d] [] 1 (.nle (.a (.a (.a (.v 0)<|.c 2)<|.m 4<|.v 1)<|.c 4)<|.c 1000000) [(1,.nle (.a (.a (.v 0)<|.m 4<|.a (.v 1)<|.c 1)<|.c 4)<|.c 1000000)] rfl hB));have A:=Ev_do1 (n:=n) (pg:=pg) (inp:=inp) (F:=fN (.tuple [.str a]) (fun j0_=>RU a dp) 1) (m:=m) (B:=B+2+1) (h:=.dict [(.str a,.int ((d+1:Nat) :Int))]) (a:=nam a) (op:=k_down) (by exact(lin [B,d] [] 1 (.nle (.a (.a (.a (.v 0)<|.c 2)<|.c 1)<|.c 1)<|.c 1000000) [(1,.nle (.a (.a (.v 0)<|.m 4<|.a (.v 1)<|.c 1)<|.c 4)<|.c 1000000)] rfl hB)) (Ev_nam (v:=((d+1:Nat) :Int)) (dx1 _ _) (by exact(lin [B,d] [] 1 (.nle (.a (.a (.a (.v 0)<|.c 2)<|.c 1)<|.c 1)<|.c 1000000) [(1,.nle (.a (.a (.v 0)<|.m 4<|.a (.v 1)<|.c 1)<|.c 4)<|.c 1000000)] rfl hB)))<|down_y n ((d+1:Nat) :Int) (by omega);rw[show((d+1:Nat) :Int) - 1=(d:Nat) by omega]at A;have C:=Ev_call1 (h:=.dict [(.str a,.int ((d+1:Nat) :Int))]) (B:=B+2) (by exact(lin [B,d] [] 1 (.nle (.a (.a (.v 0)<|.c 2)<|.c 1)<|.c 1000000) [(1,.nle (.a (.a (.v 0)<|.m 4<|.a (.v 1)<|.c 1)<|.c 4)<|.c 1000000)] rfl hB)) A (fN_lt (.tuple [.str a]) (fun j0_=>RU a dp) 1 0 (by decide) (by decide)) (dz1 a<|.int (d:Nat)) E;obtain⟨K',h',E'⟩:=Ev_mc dp (by exact(lin [d] [] 1 (.nle (.v 0)<|.c 100000) [(1,.nle (.a (.v 0)<|.c 1)<|.c 2000)] rfl hd)) (by exact(lin [B,d] [] 1 (.nle (.a (.v 0)<|.c 2)<|.c 1000000) [(1,.nle (.a (.a (.v 0)<|.m 4<|.a (.v 1)<|.c 1)<|.c 4)<|.c 1000000)] rfl hB)) (Nat.le_refl _)<|C.k<|Nat.zero_add _;exact⟨_,by show K'+1+1+1≤_;exact(lin [K',d,K] [] 1 (.nle (.a (.a (.a (.v 0)<|.c 1)<|.c 1)<|.c 1)<|.a (.m 12<|.a (.v 1)<|.c 1)<|.c 4) [(1,.nle (.v 2)<|.a (.m 12<|.v 1)<|.c 4),(1,.nle (.v 0)<|.a (.a (.a (.a (.v 2)<|.c 1)<|.a (.c 1)<|.c 2)<|.c 1)<|.c 3)] rfl hK h'),(Ev_ifT (B:=B) (by exact(lin [B,d] [] 1 (.nle (.a (.v 0)<|.c 1)<|.c 1000000) [(1,.nle (.a (.a (.v 0)<|.m 4<|.a (.v 1)<|.c 1)<|.c 4)<|.c 1000000)] rfl hB)) (by omega) (Ev_nam (v:=((d+1:Nat) :Int)) (dx1 _ _) (by exact(lin [B,d] [] 1 (.nle (.a (.v 0)<|.c 1)<|.c 1000000) [(1,.nle (.a (.a (.v 0)<|.m 4<|.a (.v 1)<|.c 1)<|.c 4)<|.c 1000000)] rfl hB))) E').k<|Nat.zero_add _⟩
end
end Lq
end
section
namespace Lq
open PySem Mv
noncomputable abbrev wds:ax:=[⟨[105,102,115].toArray⟩,⟨[108,105,115,116,120].toArray⟩,⟨[112,108,117,115,50].toArray⟩,⟨[114,101,102,117,115,101,115].toArray⟩,⟨[114,101,115,116,101,100].toArray⟩,⟨[100,111,119,110,115].toArray⟩,⟨[115,97,109,101,49].toArray⟩,⟨[106,111,105,110,115].toArray⟩,⟨[111,118,101,114,115].toArray⟩,⟨[102,105,114,115,116,115].toArray⟩,⟨[101,109,112,116,121,120].toArray⟩,⟨[97,57].toArray⟩]
noncomputable abbrev sg36:aw:=[97,98,99,100,101,102,103,104,105,106,107,108,109,110,111,112,113,114,115,116,117,118,119,120,121,122,48,49,50,51,52,53,54,55,56,57]
theorem fm(a:Int){b:Int}(h:0<b) :a.fmod b=a % b:=Int.fmod_eq_emod_of_nonneg a<|Int.le_of_lt h
noncomputable def nA(q:Int)(k:Nat) :Str:=(wds[((q+k) % 12).toNat]?).getD ⟨#[]⟩
theorem idx_w(q:Int)(k:Nat) :idxD (.list<|wds.map .str) (.int<|(q+(0+(k:Int))).fmod 12)=some (.str<|nA q k):=by
 rw[fm _ (by decide),Int.zero_add];have h0:=Int.emod_nonneg (q+k) (show(12:Int)≠0 by decide);have h1:=Int.emod_lt_of_pos (q+k) (show(0:Int)<12 by decide);show idxOf _ _=_
 unfold idxOf nA;rw[if_pos h0,List.getElem?_map];generalize hr:((q+(k:Int)) % 12).toNat=r;have hl:r<12:=by omega
 rw[List.getElem?_eq_getElem (show r<wds.length from hl)];rfl
theorem nd_w:∀i:_root_.Fin 12, ∀j:_root_.Fin 12,i≠j→(wds[i.1]?).getD ⟨#[]⟩≠(wds[j.1]?).getD ⟨#[]⟩:=by decide
theorem nA_ne(q:Int){k j:Nat}(h:k≠j)(hk:k<12)(hj:j<12) :nA q k≠nA q j:=by have h1:=Int.emod_lt_of_pos (q+k) (show(0:Int)<12 by decide);have h2:=Int.emod_lt_of_pos (q+j) (show(0:Int)<12 by decide);have h3:=Int.emod_nonneg (q+k) (show(12:Int)≠0 by decide);have h4:=Int.emod_nonneg (q+j) (show(12:Int)≠0 by decide);refine nd_w ⟨((q+k) % 12).toNat,by omega⟩ ⟨((q+j) % 12).toNat,by omega⟩ fun e=>?_;have e:=congrArg _root_.Fin.val e;have e:((q+(k:Int)) % 12).toNat=((q+(j:Int)) % 12).toNat:=e;omega
noncomputable abbrev owL(l:aB) :Option (aA Rv×List Mv.Slot):=some (.ok<|.ai<|.list l,[])
structure Nm(l:aB)(f a b c:Str) :Prop where
 l:∃r,l = .str f :: .str a :: .str b :: .str c::r
 ab:a≠b
 ac:a≠c
 bc:b≠c
theorem names_A(n:Nat)(x:Int)(h:x.fmod 9=8) :∃l f a b c,cF P (n+1) 19 [.fz<|.int x]=owL l∧Nm l f a b c:=by
 refine⟨(List.range' 0 12).map fun k=>.str<|nA (x.fdiv 9) k,nA (x.fdiv 9) 0,nA (x.fdiv 9) 1,nA (x.fdiv 9) 2,nA (x.fdiv 9) 3,?_,⟨_,rfl⟩,nA_ne _ (by decide) (by decide) (by decide),nA_ne _ (by decide) (by decide) (by decide),nA_ne _ (by decide) (by decide) (by decide)⟩;have q:cmpD .eq (.int<|x.fmod 9) (.int 8)=some true:=by rw[h];rfl
 have i0:=idx_w (x.fdiv 9) 0;have i1:=idx_w (x.fdiv 9) 1;have i2:=idx_w (x.fdiv 9) 2;have i3:=idx_w (x.fdiv 9) 3;have i4:=idx_w (x.fdiv 9) 4;have i5:=idx_w (x.fdiv 9) 5;have i6:=idx_w (x.fdiv 9) 6;have i7:=idx_w (x.fdiv 9) 7;have i8:=idx_w (x.fdiv 9) 8;have i9:=idx_w (x.fdiv 9) 9;have i10:=idx_w (x.fdiv 9) 10;have i11:=idx_w (x.fdiv 9) 11;exact wkF [.b 1<|q,.d 7<|i0,.d 4<|i1,.d 4<|i2,.d 4<|i3,.d 4<|i4,.d 4<|i5,.d 4<|i6,.d 4<|i7,.d 4<|i8,.d 4<|i9,.d 4<|i10,.d 4<|i11] rfl (by kernel_rfl)
noncomputable abbrev mT(p:Nat) :Str:=⟨(List.replicate p 109).toArray⟩
theorem mul_m(p:Nat)(h:p<9) :op2 .mul (S [109]) (.int (p:Nat))=some (.fz<|.str<|mT p):=by
 match p,h with
 | 0,_=>kernel_rfl
 | 1,_=>kernel_rfl
 | 2,_=>kernel_rfl
 | 3,_=>kernel_rfl
 | 4,_=>kernel_rfl
 | 5,_=>kernel_rfl
 | 6,_=>kernel_rfl
 | 7,_=>kernel_rfl
 | 8,_=>kernel_rfl
noncomputable def sgn(t ah:Int)(k:Nat) :Nat:=(sg36[((t+k) % ah).toNat]?).getD 0
theorem idx_s(t:Int){ah:Int}(hM:ah=26∨ah=36)(k:Nat) :idxD (S sg36) (.int<|(t+(k:Int)).fmod ah)=some (.str ⟨#[sgn t ah k]⟩):=by
 have hp:0<ah∧ah≤36:=by omega
 rw[fm _ hp.1];have h0:=Int.emod_nonneg (t+k) (show ah≠0 by omega);have h1:=Int.emod_lt_of_pos (t+k) hp.1;show(idxOf sg36 _).map (fun c=>PyData.str ⟨#[c]⟩)=_
 unfold idxOf sgn;rw[if_pos h0];generalize hr:((t+(k:Int)) % ah).toNat=r;have hl:r<36:=by omega
 rw[List.getElem?_eq_getElem (show r<sg36.length from hl)];rfl
theorem nd_s:∀i:_root_.Fin 36, ∀j:_root_.Fin 36,i≠j→(sg36[i.1]?).getD 0≠(sg36[j.1]?).getD 0:=by decide
theorem sgn_ne(t:Int){ah:Int}(hM:ah=26∨ah=36){k j:Nat}(h:k≠j)(hk:k<12)(hj:j<12) :sgn t ah k≠sgn t ah j:=by
 have hp:0<ah:=by omega
 have h1:=Int.emod_lt_of_pos (t+k) hp;have h2:=Int.emod_lt_of_pos (t+j) hp;have h3:=Int.emod_nonneg (t+k) (show ah≠0 by omega);have h4:=Int.emod_nonneg (t+j) (show ah≠0 by omega);refine nd_s ⟨((t+k) % ah).toNat,by omega⟩ ⟨((t+j) % ah).toNat,by omega⟩ fun e=>?_;have e:=congrArg _root_.Fin.val e;have e:((t+(k:Int)) % ah).toNat=((t+(j:Int)) % ah).toNat:=e;rcases hM with rfl | rfl <;> omega
noncomputable def nB(t ah:Int)(p q:Nat)(k:Nat) :Str:=⟨((mT p).cps ++ #[sgn t ah k])++(mT q).cps⟩
theorem nB_ne(t:Int){ah:Int}(hM:ah=26∨ah=36)(p q:Nat){k j:Nat}(h:k≠j)(hk:k<12)(hj:j<12) :nB t ah p q k≠nB t ah p q j:=fun e=>by have e:((mT p).cps ++ #[sgn t ah k])++(mT q).cps=((mT p).cps ++ #[sgn t ah j])++(mT q).cps:=congrArg Str.cps e;have e:=congrArg Array.toList e;rw[Array.toList_append,Array.toList_append,Array.toList_append,Array.toList_append]at e;have e:=List.append_cancel_left<|List.append_cancel_right e;exact sgn_ne t hM h hk hj (List.cons.inj e).1
theorem add_1(p:Nat)(h:p<9)(c:Nat) :op2 .add (.str<|mT p) (.str ⟨#[c]⟩)=some (.fz<|.str ⟨(mT p).cps ++ #[c]⟩):=by rw[o_addS,if_pos (by show(List.replicate p 109).toArray.size+1≤16777216;rw[List.size_toArray,List.length_replicate];exact(lin [p] [] 1 (.nle (.a (.v 0)<|.c 1)<|.c 16777216) [(1,.nle (.a (.v 0)<|.c 1)<|.c 9)] rfl h))]
theorem add_2(t ah:Int)(p q k:Nat)(h:p<9)(h':q<9) :op2 .add (.str ⟨(mT p).cps ++ #[sgn t ah k]⟩) (.str<|mT q)=some (.fz<|.str<|nB t ah p q k):=by rw[o_addS,if_pos (by show((List.replicate p 109).toArray ++ #[sgn t ah k]).size+(List.replicate q 109).toArray.size≤16777216;rw[Array.size_append,List.size_toArray,List.length_replicate,List.size_toArray,List.size_toArray,List.length_replicate];show p+1+q≤16777216;exact(lin [p,q] [] 1 (.nle (.a (.a (.v 0)<|.c 1)<|.v 1)<|.c 16777216) [(1,.nle (.a (.v 0)<|.c 1)<|.c 9),(1,.nle (.a (.v 1)<|.c 1)<|.c 9)] rfl h h'))];rfl
noncomputable abbrev nBd:List St:=[.asg (.one 6)<|.idx (.var 1)<|.op2 .mod (.op2 .add (.op2 .fdiv (.var 0)<|.lit<|.int 64)<|.var 5)<|.idx (.list [(.lit<|.int 26),(.lit<|.int 36)])<|.bi .int [(.cmp .gt (.var 3)<|.lit<|.int 0)],
   .app (.var 4) (.op2 .add (.op2 .add (.op2 .mul (.lit<|S [109])<|.var 3)<|.var 6)<|.op2 .mul (.lit<|S [109])<|.op2 .sub (.op2 .sub (.var 2)<|.lit<|.int 1)<|.var 3)]
noncomputable abbrev nF(x sz:Int)(p:Nat)(ys:aB)(a b:Mv.Slot) :List Mv.Slot:=[.fz<|.int x,.fz<|S sg36,.fz<|.int sz,.fz<|.int (p:Nat),.ai<|.list ys,a,b,.no]
theorem nB_loop(N:Nat)(x sz ah:Int)(p q:Nat)(hM:(0<p∧ah=36)∨(p=0∧ah=26))(hp:p<9)(hq:q<9)(hs:sz - 1 - (p:Nat)=(q:Nat)) :∀(d k:Nat)(ys:aB)(a b:Mv.Slot),k+d≤100→ys.length=k→
  forB (cf N) (nF x sz p ys a b) (.one 5) nBd [5,6] ((List.range' k d).map fun k=>.int<|0+(k:Nat))=some (.ok .next,nF x sz p (ys++(List.range' k d).map fun k=>.str<|nB (x.fdiv 64) ah p q k) .no .no):=by
 intro d;induction d with
 | zero=>intro k ys a b _ _;show forB _ _ _ _ _ []=some (_,nF x sz p (ys++[]) .no .no);rw[List.append_nil,forB_nil];rfl
 | succ d ih=>
  intro k ys a b hk hy;have g:=ih (k+1) (ys++[.str<|nB (x.fdiv 64) ah p q k]) (.fz<|.int<|0+(k:Nat)) (.fz<|.str ⟨#[sgn (x.fdiv 64) ah k]⟩) (by exact(lin [k,d] [] 1 (.nle (.a (.a (.v 0)<|.c 1)<|.v 1)<|.c 100) [(1,.nle (.a (.v 0)<|.a (.v 1)<|.c 1)<|.c 100)] rfl hk)) (by rw[List.length_append,hy];rfl);rw[List.append_assoc]at g;have i:=idx_s (x.fdiv 64) (ah:=ah) (by omega) k;rw[← Int.zero_add (k:Int)]at i;have m1:=mul_m p hp;have m2:=mul_m q hq;rw[← hs]at m2;have a1:=add_1 p hp<|sgn (x.fdiv 64) ah k;have a2:=add_2 (x.fdiv 64) ah p q k hp hq;have z:decide (ys.length<Sz)=true:=decide_eq_true (by rw[hy];show k<16777216;exact(lin [k,d] [] 1 (.nle (.a (.v 0)<|.c 1)<|.c 16777216) [(1,.nle (.a (.v 0)<|.a (.v 1)<|.c 1)<|.c 100)] rfl hk));show forB (cf N) (nF x sz p ys a b) (.one 5) nBd [5,6] (.int (0+(k:Nat))::(List.range' (k+1) d).map fun k=>.int<|0+(k:Nat))=some (_,nF x sz p (ys++([.str<|nB (x.fdiv 64) ah p q k]++(List.range' (k+1) d).map fun k=>.str<|nB (x.fdiv 64) ah p q k)) .no .no)
  generalize [PyData.str<|nB (x.fdiv 64) ah p q k]++(List.range' (k+1) d).map (fun k=>.str<|nB (x.fdiv 64) ah p q k)=ae at g ⊢;generalize (List.range' (k+1) d).map (fun k=>PyData.int<|0+(k:Nat))=U at g ⊢;generalize nB (x.fdiv 64) ah p q k=Z at g a2 ⊢;rcases hM with⟨h,rfl⟩ | ⟨h,rfl⟩
  .have c:cmpD .gt (.int (p:Nat)) (.int 0)=some true:=congrArg some<|decide_eq_true<|Int.ofNat_lt.mpr h;generalize sgn (x.fdiv 64) 36 k=aa at g i a1 a2;generalize mT p=Tp at m1 a1 a2;generalize mT q=Tq at m2 a2;exact wkL [.b 2<|c,.d 3<|i,.v 0<|m1,.v 0<|a1,.v 2<|m2,.v 0<|a2,.t 0<|z,.lp 0<|g] rfl (by kernel_rfl)
  .have c:cmpD .gt (.int (p:Nat)) (.int 0)=some false:=by rw[h];rfl
   generalize sgn (x.fdiv 64) 26 k=aa at g i a1 a2;generalize mT p=Tp at m1 a1 a2;generalize mT q=Tq at m2 a2;exact wkL [.b 2<|c,.d 3<|i,.v 0<|m1,.v 0<|a1,.v 2<|m2,.v 0<|a2,.t 0<|z,.lp 0<|g] rfl (by kernel_rfl)
theorem names_B(n:Nat)(x:Int)(h:¬x.fmod 9=8) :∃l f a b c,cF P (n+1) 19 [.fz<|.int x]=okD (.list l)∧Nm l f a b c:=by
 have c:cmpD .eq (.int<|x.fmod 9) (.int 8)=some false:=congrArg some<|decide_eq_false h;obtain⟨p,hp⟩ :∃p:Nat,(x.fdiv 8).fmod (1+x.fmod 8)=p:=by refine⟨((x.fdiv 8).fmod<|1+x.fmod 8).toNat,?_⟩;rw[fm x (show(0:Int)<8 by decide)];have h1:=Int.emod_nonneg x (show(8:Int)≠0 by decide);rw[fm _ (show(0:Int)<1+x % 8 by omega)];have:=Int.emod_nonneg (x.fdiv 8) (show 1+x % 8≠0 by omega);omega
 have h0:x.fmod 8=x % 8:=fm x (by decide);have h1:=Int.emod_nonneg x (show(8:Int)≠0 by decide);have h2:=Int.emod_lt_of_pos x (show(0:Int)<8 by decide);have h3:(p:Int)<1+x.fmod 8:=by rw[← hp,fm _ (show(0:Int)<1+x.fmod 8 by omega)];exact Int.emod_lt_of_pos _ (by omega)
 obtain⟨q,hq⟩ :∃q:Nat,(1+x.fmod 8) - 1 - (p:Int)=q:=⟨((1+x.fmod 8) - 1 - (p:Int)).toNat,by omega⟩
 obtain⟨ah,hM⟩ :∃ah:Int,(0<p∧ah=36)∨(p=0∧ah=26):=by
  by_cases e:0<p
  .exact⟨36,.inl ⟨e,rfl⟩⟩
  .exact⟨26,.inr ⟨by omega,rfl⟩⟩
 have hM':ah=26∨ah=36:=by omega
 refine⟨(List.range' 0 12).map fun k=>.str<|nB (x.fdiv 64) ah p q k,nB (x.fdiv 64) ah p q 0,nB (x.fdiv 64) ah p q 1,nB (x.fdiv 64) ah p q 2,nB (x.fdiv 64) ah p q 3,?_,⟨_,rfl⟩,nB_ne _ hM' p q (by decide) (by decide) (by decide),nB_ne _ hM' p q (by decide) (by decide) (by decide),nB_ne _ hM' p q (by decide) (by decide) (by decide)⟩;have g:=nB_loop n x (1+x.fmod 8) ah p q hM (by omega) (by omega) hq 12 0 [] .no .no (by decide) rfl;have o:op2 .mod (.int<|x.fdiv 8) (.int<|1+x.fmod 8)=some (.fz<|.int (p:Nat)):=by rw[o_mod,if_neg (by omega),hp]
 rw[List.nil_append]at g;have g:forB (cf n) (nF x (1+x.fmod 8) p [] .no .no) (.one 5) nBd [5,6] (rangeL 0 12)=_:=g;generalize (List.range' 0 12).map (fun k=>PyData.str<|nB (x.fdiv 64) ah p q k)=T at g ⊢;exact wkF [.b 1<|c,.v 4<|o,.lp 1<|g] rfl (by kernel_rfl)
theorem names_ok(n:Nat)(x:Int) :∃l f a b c,(cF P (n+1) 19 [.fz<|.int x]=owL l∨cF P (n+1) 19 [.fz<|.int x]=okD (.list l))∧Nm l f a b c:=by
 by_cases h:x.fmod 9=8
 .obtain⟨l,f,a,b,c,e,w⟩:=names_A n x h;exact⟨l,f,a,b,c,.inl e,w⟩
 .obtain⟨l,f,a,b,c,e,w⟩:=names_B n x h;exact⟨l,f,a,b,c,.inr e,w⟩
end Lq
end
section
namespace Lq
open PySem Mv
noncomputable abbrev Sm(n:Nat)(d:D) :Prop:=cF P n 18 [.fz d,.fz d]=okD (.bool true)
theorem eqs_r(s:Str) :cmpD .eq (.str s) (.str s)=some true:=by show some (s.cps.toList==s.cps.toList)=_;rw[beq_self_eq_true]
theorem eqi_r(v:Int) :cmpD .eq (.int v) (.int v)=some true:=by show some (v==v)=_;rw[beq_self_eq_true]
theorem nei_r(v:Int) :cmpD .ne (.int v) (.int v)=some false:=by show(some<|v==v).map (!·)=_;rw[beq_self_eq_true];rfl
theorem Sm_s(n:Nat)(s:Str) :Sm (n+1) (.str s):=by
 have e:=eqs_r s;show cF P (n+1) 18 [.fz<|.str s,.fz<|.str s]=okD (.bool true)
 exact wkF [.b 6<|e] rfl (by kernel_rfl)
theorem Sm_i(n:Nat)(v:Int) :Sm (n+1) (.int v):=by
 have e:=eqi_r v;show cF P (n+1) 18 [.fz<|.int v,.fz<|.int v]=okD (.bool true)
 exact wkF [.b 9<|e] rfl (by kernel_rfl)
noncomputable def Sms(n:Nat) :aB→Prop
 | []=>True
 | d::l=>Sm n d∧Sms n l
noncomputable abbrev smB:List St:=[.iff (.not<|.call 18 [(.idx (.var 0)<|.var 2),(.idx (.var 1)<|.var 2)]) [.ret<|.lit<|.bool false] []]
theorem idx_T{l:aB}{k:Nat}{d:D}(h:l[k]?=some d) :idxD (.tuple l) (.int<|0+(k:Int))=some d:=by
 rw[Int.zero_add];show(if (k:Int) = -1 then l.getLast? else idxOf l k)=_
 rw[if_neg (by omega)];unfold idxOf;rw[if_pos<|Int.natCast_nonneg _,Int.toNat_natCast,h]
theorem sm_loop(n:Nat)(L:aB) :∀(r:aB)(k:Nat)(a:Mv.Slot),L.drop k=r→Sms n r→
  forB (cf n) [.fz<|.tuple L,.fz<|.tuple L,a] (.one 2) smB [2] ((List.range' k r.length).map fun k=>.int<|0+(k:Nat))=some (.ok .next,[.fz<|.tuple L,.fz<|.tuple L,.no]):=by
 intro r;induction r with
 | nil=>intro k a _ _;show forB _ _ _ _ _ []=_;rw[forB_nil];rfl
 | cons d r ih=>
  intro k a hd hs;have hv:L[k]?=some d:=by
   have:=congrArg (·[0]?) hd
   simpa using this
  have i:=idx_T hv;have h:cF P n 18 [.fz d,.fz d]=okD (.bool true):=hs.1;have g:=ih (k+1) (.fz<|.int<|0+(k:Nat)) (by rw[← List.tail_drop,hd];rfl) hs.2;show forB (cf n) [.fz<|.tuple L,.fz<|.tuple L,a] (.one 2) smB [2] (.int (0+(k:Nat))::(List.range' (k+1) r.length).map fun k=>.int<|0+(k:Nat))=_
  generalize (List.range' (k+1) r.length).map (fun k=>PyData.int<|0+(k:Nat))=U at g ⊢;exact wkL [.d 0<|i,.d 0<|i,.c 0<|h,.lp 2<|g] rfl (by kernel_rfl)
theorem Sm_t(n:Nat)(L:aB)(hl:L.length≤1000)(h:Sms n L) :Sm (n+1) (.tuple L):=by
 have g:=sm_loop n L L 0 .no rfl h;rw[← List.range_eq_range']at g;have g:forB (cf n) [.fz<|.tuple L,.fz<|.tuple L,.no] (.one 2) smB [2] (rangeL 0 L.length)=_:=g;have e:=nei_r (L.length:Nat);have it:iterD .range [.int (L.length:Nat)]=some (rangeL 0 L.length):=by rw[it_range,if_pos ⟨by omega,by show(L.length:Int)≤16777216;omega⟩,Int.toNat_natCast]
 show cF P (n+1) 18 [.fz<|.tuple L,.fz<|.tuple L]=okD (.bool true)
 generalize rangeL 0 L.length=U at g it;exact wkF [.b 7<|e,.l 2<|it,.lp 0<|g] rfl (by kernel_rfl)
theorem power_eq(n:Nat){l:aB}{f a b c:Str}(h:Nm l f a b c) :cF P (n+1) 20 [.fz<|.list l]=okD (prg f (psP a b)<|bP f a b):=by obtain⟨⟨r,rfl⟩,_,_,_⟩:=h;exact wkF [] rfl (by kernel_rfl)
theorem sum_eq(n:Nat){l:aB}{f a b c:Str}(h:Nm l f a b c) :cF P (n+1) 21 [.fz<|.list l]=okD (prg f (psS a b c)<|bS f a b c):=by obtain⟨⟨r,rfl⟩,_,_,_⟩:=h;exact wkF [] rfl (by kernel_rfl)
theorem ne_list{l:aB}(h:∀d∈l,noDict d=true∧d.depth≤10∧PyData.eqv d d=true) :cmpD .ne (.list l) (.list l)=some false:=by
 have k:noDicts l=true∧PyData.depthAll l≤10∧PyData.eqvAll l l=true:=by induction l with
  | nil=>exact⟨rfl,Nat.zero_le _,by rw[PyData.eqvAll]⟩
  | cons x l ih=>obtain⟨a,b,c⟩:=h x<|List.mem_cons_self ..;obtain⟨a',b',c'⟩:=ih fun d hd=>h d<|List.mem_cons_of_mem _ hd;exact⟨by show(noDict x&&noDicts l)=true;rw[a,a'];rfl,Nat.max_le.mpr ⟨b,b'⟩,by rw[eqv_cc,c,c'];rfl⟩
 obtain⟨a,b,c⟩:=k;rw[c_ne,e_list,if_pos,PyData.eqv,c]
 .rfl
 .show(noDicts l&&noDicts l&&decide (min (PyData.depthAll l+1) (PyData.depthAll l+1)≤64))=true
  rw[a,Nat.min_self,decide_eq_true (by omega)];rfl
theorem pv_eq(b:Int)(hb:b.natAbs≤1000) :∀d,pv b d=if (b ^ d).natAbs<1000000000000000000 then .ok (b ^ d) else .error x_TooGreat:=by intro d;induction d with
 | zero=>rw[Int.pow_zero,if_pos (by decide)];rfl
 | succ d ih=>
  have fe:∀v:Int,fitB v=true↔v.natAbs<1000000000000000000:=fun v=>by
   unfold fitB;rw[Bool.and_eq_true,decide_eq_true_iff,decide_eq_true_iff];show(-1000000000000000000<v∧v<1000000000000000000)↔_
   omega
  have e:b ^ (d+1)=b*b ^ d:=by rw[Int.pow_succ,Int.mul_comm]
  show(match pv b d with
   | .ok v=>if fitB (b*v)=true then(Except.ok (b*v) :aA Int) else Except.error x_TooGreat
   | .error e=>Except.error e)=_
  rw[ih,e];by_cases h:(b ^ d).natAbs<1000000000000000000
  .rw[if_pos h];show(if fitB (b*b ^ d)=true then(.ok (b*b ^ d) :aA Int) else .error x_TooGreat)=_
   by_cases q:(b*b ^ d).natAbs<1000000000000000000
   .rw[if_pos q,if_pos<|(fe _).mpr q]
   .rw[if_neg q,if_neg fun w=>q<|(fe _).mp w]
  .rw[if_neg h,if_neg];rw[Int.natAbs_mul];intro q;by_cases z:b=0
   .subst z;cases d with
    | zero=>exact h (by decide)
    | succ d=>exact h (by rw[Int.pow_succ,Int.mul_zero];decide)
   .have:=Nat.le_mul_of_pos_left (b ^ d).natAbs (show 0<b.natAbs by omega)
    omega
end Lq
end
section
namespace Lq
open PySem Mv
theorem Sm_nam(n:Nat)(x:Str) :Sm (n+2) (nam x):=Sm_t (n+1) _ (Nat.le_of_ble_eq_true rfl) ⟨Sm_s n _,Sm_s n _,trivial⟩
theorem Sm_val(n:Nat)(v:Int) :Sm (n+2) (val<|.int v):=Sm_t (n+1) _ (Nat.le_of_ble_eq_true rfl) ⟨Sm_s n _,Sm_i n _,trivial⟩
theorem Sm_1{n:Nat}{a:D}(ha:Sm n a) :Sm (n+1) (.tuple [a]):=Sm_t n _ (Nat.le_of_ble_eq_true rfl) ⟨ha,trivial⟩
theorem Sm_2{n:Nat}{a b:D}(ha:Sm n a)(hb:Sm n b) :Sm (n+1) (.tuple [a,b]):=Sm_t n _ (Nat.le_of_ble_eq_true rfl) ⟨ha,hb,trivial⟩
theorem Sm_c{n:Nat}{w x:Str}{d:D}(h:Sm (n+1) d) :Sm (n+2) (.tuple [.str w,.str x,d]):=Sm_t (n+1) _ (Nat.le_of_ble_eq_true rfl) ⟨Sm_s n _,Sm_s n _,h,trivial⟩
theorem rg_eq{i:Int}{m:Nat}(h:i=m)(hm:m≤10000) :iterD .range [.int i]=some (rangeL 0 m):=by rw[h,it_range,if_pos ⟨by omega,by show(m:Int)≤16777216;omega⟩,Int.toNat_natCast]
theorem rangeL_eq(m:Nat) :rangeL 0 m=(List.range' 0 m).map fun k=>.int (0+(k:Nat)):=by rw[← List.range_eq_range'];rfl
theorem fs_get(oth:D)(R:Nat→D){k m:Nat}(h:k<m) :(fsN oth R m)[k]?=some (.tuple [.str<|nmS k,oth,R k]):=by unfold fsN;rw[List.getElem?_map,List.getElem?_range h];rfl
theorem pw18:op2 .pow (.int 10) (.int 18)=some (.fz<|.int 1000000000000000000):=by kernel_rfl
section
variable {l:aB}{f a b c:Str}
noncomputable abbrev pF(m:Nat)(x:Int)(s3 s4 s5 s6 s7 s8 s9 s10 s11:Mv.Slot) :List Mv.Slot:=[.fz<|.list l,.fz<|.int (m:Nat),.fz<|.int x,s3,s4,s5,s6,s7,s8,s9,s10,s11]
theorem p_c1(N m:Nat)(x:Int)(kn:Nat→aB)(s3 s4:Mv.Slot) :∀(d k:Nat)(s:Mv.Slot),compB (cf N) (pF (l:=l) m x s3 s4 .no .no .no .no .no s .no) (.slc (.var 10) (.lit<|.int 1)<|.lit .none) (.one 10) [] ((List.range' k d).map fun i=>.tuple [.str<|nmS i,.str f,.tuple<|kn i])=some (.ok<|(List.range' k d).map fun i=>.tuple [.str f,.tuple<|kn i],pF (l:=l) m x s3 s4 .no .no .no .no .no .no .no):=by intro d;induction d with
 | zero=>intro k s;show compB _ _ _ _ _ []=some (.ok [],_);exact wkC [] rfl (by kernel_rfl)
 | succ d ih=>
  intro k s;have g:=ih (k+1)<|.fz<|.tuple [.str<|nmS k,.str f,.tuple<|kn k];show compB (cf N) (pF (l:=l) m x s3 s4 .no .no .no .no .no s .no) (.slc (.var 10) (.lit<|.int 1)<|.lit .none) (.one 10) [] (.tuple [.str<|nmS k,.str f,.tuple<|kn k]::(List.range' (k+1) d).map fun i=>.tuple [.str<|nmS i,.str f,.tuple<|kn i])=some (.ok (.tuple [.str f,.tuple<|kn k]::(List.range' (k+1) d).map fun i=>.tuple [.str f,.tuple<|kn i]),_)
  generalize (List.range' (k+1) d).map (fun i=>PyData.tuple [.str f,.tuple<|kn i])=T at g ⊢;generalize (List.range' (k+1) d).map (fun i=>PyData.tuple [.str<|nmS i,.str f,.tuple<|kn i])=U at g ⊢;exact wkC [.cp 1<|g] rfl (by kernel_rfl)
theorem p_c2(h:Nm l f a b c)(N m:Nat)(x:Int)(s3 s4 s5:Mv.Slot) :∀(d k:Nat)(s:Mv.Slot),compB (cf N) (pF (l:=l) m x s3 s4 s5 .no .no .no .no .no s) (.tup [(.idx (.var 0)<|.lit<|.int 0),(.tup [(.op2 .sub (.var 1)<|.var 11)])]) (.one 11) [] ((List.range' k d).map fun k=>.int<|0+(k:Nat))=some (.ok<|(List.range' k d).map fun i=>.tuple [.str f,.tuple [.int<|(m:Int) - (0+((i:Nat) :Int))]],pF (l:=l) m x s3 s4 s5 .no .no .no .no .no .no):=by obtain⟨⟨r,rfl⟩,_,_,_⟩:=h;intro d;induction d with
 | zero=>intro k s;show compB _ _ _ _ _ []=some (.ok [],_);exact wkC [] rfl (by kernel_rfl)
 | succ d ih=>
  intro k s;have g:=ih (k+1)<|.fz<|.int<|0+(k:Nat);show compB (cf N) (pF (l:=.str f :: .str a :: .str b :: .str c::r) m x s3 s4 s5 .no .no .no .no .no s) (.tup [(.idx (.var 0)<|.lit<|.int 0),(.tup [(.op2 .sub (.var 1)<|.var 11)])]) (.one 11) [] (.int (0+(k:Nat))::(List.range' (k+1) d).map fun k=>.int<|0+(k:Nat))=some (.ok (.tuple [.str f,.tuple [.int<|(m:Int) - (0+(k:Int))]]::(List.range' (k+1) d).map fun i=>.tuple [.str f,.tuple [.int<|(m:Int) - (0+((i:Nat) :Int))]]),_)
  generalize (List.range' (k+1) d).map (fun i=>PyData.tuple [.str f,.tuple [.int<|(m:Int) - (0+((i:Nat) :Int))]])=T at g ⊢;generalize (List.range' (k+1) d).map (fun k=>PyData.int<|0+(k:Nat))=U at g ⊢;exact wkC [.cp 2<|g] rfl (by kernel_rfl)
noncomputable abbrev pB:List St:=[.asg (.one 8)<|.tup [(.lit<|S [118,97,108,117,101]),(.lit<|.int 1)],
   .iff (.cmp .lt (.var 7)<|.var 1) [.asg (.one 8)<|.tup [(.lit<|S [100,111]),(.lit<|S [116,105,109,101,115]),(.tup [(.var 6),(.tup [(.lit<|S [99,97,108,108]),(.idx (.idx (.var 4)<|.op2 .add (.var 7)<|.lit<|.int 1)<|.lit<|.int 0),(.tup [(.var 6)])])])]] [],
   .iff (.not<|.call 18 [(.slc (.idx (.var 4)<|.var 7) (.lit<|.int 1)<|.lit .none),(.tup [(.tup [(.idx (.var 0)<|.lit<|.int 2)]),(.var 8)])]) [.ret<|.lit<|.bool false] []]
theorem p_l1(h:Nm l f a b c)(N m:Nat)(x:Int)(s3 s5:Mv.Slot)(hN:8≤N) :∀(d k:Nat)(s t:Mv.Slot),k+d=m+1→forB (cf N) (pF (l:=l) m x s3 (.fz<|.tuple<|fsN (.tuple [.str b]) (RP b m)<|m+1) s5 (.fz<|nam b) s t .no .no .no) (.one 7) pB [7,8] ((List.range' k d).map fun k=>.int<|0+(k:Nat))=some (.ok .next,pF (l:=l) m x s3 (.fz<|.tuple<|fsN (.tuple [.str b]) (RP b m)<|m+1) s5 (.fz<|nam b) .no .no .no .no .no):=by
 obtain⟨⟨r,rfl⟩,_,_,_⟩:=h;obtain⟨N,rfl⟩ :∃i,N=i+8:=⟨N - 8,by exact(Nat.le_antisymm (lin [N,N - (8:Nat)] [] 1 (.nle (.v 0)<|.a (.v 1)<|.c 8) [(-1,.neq (.a (.v 1)<|.c 8)<|.v 0)] rfl<|Nat.sub_add_cancel (n:=N) (m:=(8:Nat)) hN)<|lin [N - (8:Nat),N] [] 1 (.nle (.a (.v 0)<|.c 8)<|.v 1) [(1,.neq (.a (.v 0)<|.c 8)<|.v 1)] rfl<|Nat.sub_add_cancel (n:=N) (m:=(8:Nat)) hN)⟩
 intro d;induction d with
 | zero=>intro k s t _;show forB _ _ _ _ _ []=_;rw[forB_nil];rfl
 | succ d ih=>
  intro k s t hk;have i1:=idx_T<|fs_get (.tuple [.str b]) (RP b m) (m:=m+1) (k:=k) (by exact(lin [k,m,d] [] 1 (.nle (.a (.v 0)<|.c 1)<|.a (.v 1)<|.c 1) [(1,.neq (.a (.v 0)<|.a (.v 2)<|.c 1)<|.a (.v 1)<|.c 1)] rfl hk));show forB _ (pF (l:=.str f :: .str a :: .str b :: .str c::r) m x s3 (.fz<|.tuple<|fsN (.tuple [.str b]) (RP b m)<|m+1) s5 (.fz<|nam b) s t .no .no .no) (.one 7) pB [7,8] (.int (0+(k:Nat))::(List.range' (k+1) d).map fun k=>.int<|0+(k:Nat))=_
  by_cases q:k<m
  .rw[show RP b m k=doo k_times [nam b,cal (nmS<|k+1) [nam b]] from if_pos q]at i1;have i2:=idx_T<|fs_get (.tuple [.str b]) (RP b m) (m:=m+1) (k:=k+1) (by exact(lin [k,m] [] 1 (.nle (.a (.a (.v 0)<|.c 1)<|.c 1)<|.a (.v 1)<|.c 1) [(1,.nle (.a (.v 0)<|.c 1)<|.v 1)] rfl q));rw[show(0:Int)+((k+1:Nat) :Int)=0+(k:Int)+1 by omega]at i2;have g:=ih (k+1) (.fz<|.int<|0+(k:Nat)) (.fz<|doo k_times [nam b,cal (nmS<|k+1) [nam b]]) (by exact(Nat.le_antisymm (lin [k,d,m] [] 1 (.nle (.a (.a (.v 0)<|.c 1)<|.v 1)<|.a (.v 2)<|.c 1) [(1,.neq (.a (.v 0)<|.a (.v 1)<|.c 1)<|.a (.v 2)<|.c 1)] rfl hk)<|lin [m,k,d] [] 1 (.nle (.a (.v 0)<|.c 1)<|.a (.a (.v 1)<|.c 1)<|.v 2) [(-1,.neq (.a (.v 1)<|.a (.v 2)<|.c 1)<|.a (.v 0)<|.c 1)] rfl hk));have e:cmpD .lt (.int<|0+(k:Int)) (.int (m:Nat))=some true:=ltT (by omega);have w:cF P (N+8) 18 [.fz<|.tuple [.tuple [.str b],doo k_times [nam b,cal (nmS<|k+1) [nam b]]],.fz<|.tuple [.tuple [.str b],doo k_times [nam b,cal (nmS<|k+1) [nam b]]]]=okD (.bool true):=
    Sm_2 (n:=N+7) (Sm_1 (n:=N+6)<|Sm_s _ _) (Sm_c (n:=N+5)<|Sm_2 (n:=N+5) (Sm_nam (N+3) b)<|Sm_c (n:=N+3)<|Sm_1 (n:=N+3)<|Sm_nam (N+1) b)
   generalize RP b m (k+1)=Z at i2;generalize nmS (k+1)=aa at i1 i2 g w;generalize fsN (.tuple [.str b]) (RP b m) (m+1)=ag at i1 i2 g ⊢;generalize (List.range' (k+1) d).map (fun k=>PyData.int<|0+(k:Nat))=U at g ⊢;exact wkL [.b 0<|e,.d 2<|i2,.d 1<|i1,.c 2<|w,.lp 2<|g] rfl (by kernel_rfl)
  .rw[show RP b m k=val (.int 1) from if_neg q]at i1;have g:=ih (k+1) (.fz<|.int<|0+(k:Nat)) (.fz<|val<|.int 1) (by exact(Nat.le_antisymm (lin [k,d,m] [] 1 (.nle (.a (.a (.v 0)<|.c 1)<|.v 1)<|.a (.v 2)<|.c 1) [(1,.neq (.a (.v 0)<|.a (.v 1)<|.c 1)<|.a (.v 2)<|.c 1)] rfl hk)<|lin [m,k,d] [] 1 (.nle (.a (.v 0)<|.c 1)<|.a (.a (.v 1)<|.c 1)<|.v 2) [(-1,.neq (.a (.v 1)<|.a (.v 2)<|.c 1)<|.a (.v 0)<|.c 1)] rfl hk));have e:cmpD .lt (.int<|0+(k:Int)) (.int (m:Nat))=some false:=ltF (by omega);have w:cF P (N+8) 18 [.fz<|.tuple [.tuple [.str b],val<|.int 1],.fz<|.tuple [.tuple [.str b],val<|.int 1]]=okD (.bool true):=Sm_2 (n:=N+7) (Sm_1 (n:=N+6)<|Sm_s _ _)<|Sm_val (N+5) 1;generalize fsN (.tuple [.str b]) (RP b m) (m+1)=ag at i1 g ⊢;generalize (List.range' (k+1) d).map (fun k=>PyData.int<|0+(k:Nat))=U at g ⊢;exact wkL [.b 0<|e,.d 1<|i1,.c 2<|w,.lp 2<|g] rfl (by kernel_rfl)
theorem mul_ok(v x:Int)(hx:x.natAbs≤1000) :op2 .mul (.int v) (.int x)=some (.fz<|.int<|v*x):=by rw[o_mulI];unfold mulI mulOk;rw[decide_eq_true (show x.natAbs<2 ^ 64 by omega),Bool.or_true,if_pos rfl]
theorem p_l2(N m:Nat)(x:Int)(hx:x.natAbs≤1000)(s3 s4 s5 s6:Mv.Slot) :∀(d k:Nat)(s:Mv.Slot),forB (cf N) (pF (l:=l) m x s3 s4 s5 s6 s .no (.fz<|.int<|x ^ k) .no .no) (.one 7) [.asg (.one 9)<|.op2 .mul (.var 9)<|.var 2] [7] ((List.range' k d).map fun k=>.int<|0+(k:Nat))=some (.ok .next,pF (l:=l) m x s3 s4 s5 s6 .no .no (.fz<|.int<|x ^ (k+d)) .no .no):=by intro d;induction d with
 | zero=>intro k s;show forB _ _ _ _ _ []=_;rw[forB_nil];rfl
 | succ d ih=>
  intro k s;have g:=ih (k+1)<|.fz<|.int<|0+(k:Nat);rw[show k+1+d=k+(d+1) by exact(Nat.le_antisymm (lin [k,d] [] 1 (.nle (.a (.a (.v 0)<|.c 1)<|.v 1)<|.a (.v 0)<|.a (.v 1)<|.c 1) [] rfl)<|lin [k,d] [] 1 (.nle (.a (.v 0)<|.a (.v 1)<|.c 1)<|.a (.a (.v 0)<|.c 1)<|.v 1) [] rfl)]at g;have u:=mul_ok (x ^ k) x hx;rw[← Int.pow_succ]at u;show forB (cf N) (pF (l:=l) m x s3 s4 s5 s6 s .no (.fz<|.int<|x ^ k) .no .no) (.one 7) [.asg (.one 9)<|.op2 .mul (.var 9)<|.var 2] [7] (.int (0+(k:Nat))::(List.range' (k+1) d).map fun k=>.int<|0+(k:Nat))=_
  generalize (List.range' (k+1) d).map (fun k=>PyData.int<|0+(k:Nat))=U at g ⊢;generalize x ^ (k+1)=ae at g u;generalize x ^ (k+(d+1))=V' at g ⊢;generalize x ^ k=V'' at u ⊢;exact wkL [.v 0<|u,.lp 0<|g] rfl (by kernel_rfl)
end
theorem told_eq(n:Nat){lf inp:D}{m:Int}{r:aA Int}(hr:∀e,r = .error e→e=x_TooLong∨e=x_TooGreat)(h:cF P n 16 [.fz lf,.fz inp,.fz<|.int m]=resE r) :cF P (n+1) 22 [.fz lf,.fz inp,.fz<|.int m]=okD (match r with | .ok v=>.int v | .error e=>if e=x_TooLong then s_long else s_oth):=by cases r with
 | ok v=>exact told_ok n h
 | error e=>
  rcases hr e rfl with rfl | rfl
  .exact told_long n h
  .exact told_oth n h
end Lq
end
section
namespace Lq
open PySem Mv
theorem fit_1000{x:Int}(h:x.natAbs≤1000) :fitB x=true:=by unfold fitB;rw[decide_eq_true (show -Gt<x from by show -1000000000000000000<x;omega),decide_eq_true (show x<Gt from by show x<1000000000000000000;omega)];rfl
theorem pv_err{b:Int}(hb:b.natAbs≤1000){d:Nat}{e:Str}(h:pv b d = .error e) :e=x_TooGreat:=by
 rw[pv_eq b hb]at h;by_cases q:(b ^ d).natAbs<1000000000000000000
 .rw[if_pos q]at h;exact nomatch h
 .rw[if_neg q]at h;exact(Except.error.inj h).symm
theorem run_P(n:Nat)(b:Str)(m:Nat)(hm:m<30)(x:Int)(hx:x.natAbs≤1000)(t:Int)(ht:0≤t) :cF P (n+7) 16 [.fz<|.tuple<|fsN (.tuple [.str b]) (RP b m)<|m+1,.fz<|.tuple [.int x],.fz<|.int t]=resE (outM t m<|pv x m):=by obtain⟨K,hK,E⟩:=EvP (n:=n) (pg:=.tuple<|fsN (.tuple [.str b]) (RP b m)<|m+1) (inp:=.tuple [.int x]) (m:=t) (b:=b) (ah:=m) (by exact(lin [m] [] 1 (.nle (.a (.v 0)<|.c 1)<|.c 399) [(1,.nle (.a (.v 0)<|.c 1)<|.c 30)] rfl hm)) (fit_1000 hx) m 0 0 (Nat.zero_add _) (by show 0+4*m+4≤1000000;exact(lin [m] [] 1 (.nle (.a (.a (.c 0)<|.m 4<|.v 0)<|.c 4)<|.c 1000000) [(4,.nle (.a (.v 0)<|.c 1)<|.c 30)] rfl hm));exact run_eq n m m K (by exact(lin [m] [] 1 (.nle (.a (.v 0)<|.c 1)<|.c 399) [(1,.nle (.a (.v 0)<|.c 1)<|.c 30)] rfl hm)) ht (by exact(lin [K,m] [] 1 (.nle (.v 0)<|.c 1000000) [(8,.nle (.a (.v 1)<|.c 1)<|.c 30),(1,.nle (.v 0)<|.a (.m 8<|.v 1)<|.c 1)] rfl hm hK)) (dz1t b<|.int x) E
theorem told_P(n:Nat)(b:Str)(m:Nat)(hm:m<30)(x:Int)(hx:x.natAbs≤1000) :cF P (n+8) 22 [.fz<|.tuple<|fsN (.tuple [.str b]) (RP b m)<|m+1,.fz<|.tuple [.int x],.fz<|.int (m:Nat)]=okD (if (x ^ m).natAbs<1000000000000000000 then .int (x ^ m) else s_oth):=by
 have h:=run_P n b m hm x hx m<|Int.natCast_nonneg _;rw[show outM ((m:Nat) :Int) m (pv x m)=pv x m from if_pos<|Int.le_refl _,pv_eq x hx]at h;by_cases q:(x ^ m).natAbs<1000000000000000000
 .rw[if_pos q]at h ⊢;exact told_ok _ h
 .rw[if_neg q]at h ⊢;exact told_oth _ h
theorem told_P'(n:Nat)(b:Str)(m:Nat)(hm:m+1<30)(x:Int)(hx:x.natAbs≤1000) :cF P (n+8) 22 [.fz<|.tuple<|fsN (.tuple [.str b]) (RP b<|m+1)<|m+1+1,.fz<|.tuple [.int x],.fz<|.int<|((m+1:Nat) :Int) - 1]=okD s_long:=by have h:=run_P n b (m+1) hm x hx (((m+1:Nat) :Int) - 1) (by omega);rw[show outM (((m+1:Nat) :Int) - 1) (m+1) (pv x<|m+1) = .error x_TooLong from if_neg (by omega)]at h;exact told_long _ h
theorem of_power_ok(n:Nat){l:aB}{f a b c:Str}(h:Nm l f a b c)(m:Nat)(hm:m<30)(x:Int)(hx:x.natAbs≤1000) :cF P (n+18) 23 [.fz<|.list l,.fz<|.int (m:Nat),.fz<|.int x]=okD (.bool true):=by
 have p:=power_eq (n+16) h;have wp:=worked_P (f:=f) (a:=a) (b:=b) (m:=m) h.ab (by exact(lin [m] [] 1 (.nle (.a (.v 0)<|.c 1)<|.c 398) [(1,.nle (.a (.v 0)<|.c 1)<|.c 30)] rfl hm)) n;have k0:knI m 0=[.int (m:Nat)]:=by show [PyData.int<|(m:Int) - ((0:Nat) :Int)]=_;rw[Int.natCast_zero,Int.sub_zero]
 rw[k0]at wp;have lf:=left_eq (n+16) wp;have cs:=cases_eq (n+16) wp;have c1:=p_c1 (l:=l) (f:=f) (n+17) m x (knI m) (.fz<|prg f (psP a b)<|bP f a b) (.fz<|.tuple<|fsN (.tuple [.str b]) (RP b m)<|m+1) (m+1) 0 .no;have t0:trN f (knI m) (m+1)=(List.range' 0<|m+1).map fun i=>.tuple [.str<|nmS i,.str f,.tuple<|knI m i]:=by unfold trN;rw[List.range_eq_range']
 rw[← t0]at c1;have te:((List.range' 0<|m+1).map fun i=>PyData.tuple [.str f,.tuple<|knI m i])=(List.range' 0<|m+1).map fun(i:Nat)=>.tuple [.str f,.tuple [.int<|(m:Int) - (0+(i:Int))]]:=List.map_congr_left fun i j0_=>by rw[Int.zero_add]
 rw[te]at c1;have c2:=fun s5=>p_c2 h (n+17) m x (.fz<|prg f (psP a b)<|bP f a b) (.fz<|.tuple<|fsN (.tuple [.str b]) (RP b m)<|m+1) s5 (m+1) 0 .no;have ne:cmpD .ne (.list<|(List.range' 0<|m+1).map fun(i:Nat)=>.tuple [.str f,.tuple [.int<|(m:Int) - (0+(i:Int))]]) (.list<|(List.range' 0<|m+1).map fun(i:Nat)=>.tuple [.str f,.tuple [.int<|(m:Int) - (0+(i:Int))]])=some false:=by refine ne_list fun d hd=>?_;obtain⟨i,_,rfl⟩:=List.mem_map.mp hd;exact⟨rfl,Nat.le_of_ble_eq_true rfl,key_refl _ rfl⟩
 have it:=rg_eq (i:=(m:Int)+1) (m:=m+1) (by omega) (by exact(lin [m] [] 1 (.nle (.a (.v 0)<|.c 1)<|.c 10000) [(1,.nle (.a (.v 0)<|.c 1)<|.c 30)] rfl hm));have it2:=rg_eq (i:=(m:Int)) (m:=m) rfl (by exact(lin [m] [] 1 (.nle (.v 0)<|.c 10000) [(1,.nle (.a (.v 0)<|.c 1)<|.c 30)] rfl hm));have r1:=rangeL_eq<|m+1;have r2:=rangeL_eq m;rw[← r1]at c2;have l1:=fun s5=>p_l1 h (n+17) m x (.fz<|prg f (psP a b)<|bP f a b) s5 (by exact(lin [n] [] 1 (.nle (.c 8)<|.a (.v 0)<|.c 17) [] rfl)) (m+1) 0 .no .no<|Nat.zero_add _;rw[← r1]at l1;have l2:=fun s5=>p_l2 (l:=l) (n+17) m x hx (.fz<|prg f (psP a b)<|bP f a b) (.fz<|.tuple<|fsN (.tuple [.str b]) (RP b m)<|m+1) s5 (.fz<|nam b) m 0 .no;rw[← r2,Nat.zero_add,Int.pow_zero]at l2;have le:cmpD .ne (.int (fsN (.tuple [.str b]) (RP b m)<|m+1).length) (.int<|(m:Int)+1)=some false:=by rw[fs_len];exact nei_r ((m+1:Nat) :Int)
 have td:=told_P (n+9) b m hm x hx;have td':∀k,m=k+1→cF P (n+17) 22 [.fz<|.tuple<|fsN (.tuple [.str b]) (RP b m)<|m+1,.fz<|.tuple [.int x],.fz<|.int<|(m:Nat) - 1]=okD s_long:=fun k e=>by subst e;exact told_P' (n+9) b k hm x hx
 generalize ((List.range' 0<|m+1).map fun(i:Nat)=>PyData.tuple [.str f,.tuple [.int<|(m:Int) - (0+(i:Int))]])=T at c1 c2 ne;generalize rangeL 0 (m+1)=U1 at it c2 l1;generalize rangeL 0 m=U2 at it2 l2;generalize fsN (.tuple [.str b]) (RP b m) (m+1)=ag at lf c1 c2 l1 l2 le td td';generalize trN f (knI m) (m+1)=aa at cs c1;have c2:=c2<|.fz<|.list T;have l1:=l1<|.fz<|.list T;have l2:=l2<|.fz<|.list T;have ni:=nei_r<|x ^ m;by_cases q:(x ^ m).natAbs<1000000000000000000
 .rw[if_pos q]at td;have ge:cmpD .ge (.int ((x ^ m).natAbs:Nat)) (.int 1000000000000000000)=some false:=by rw[c_ge];exact congrArg some (decide_eq_false (by omega))
  obtain⟨⟨r,rfl⟩,_,_,_⟩:=h;generalize x ^ m=ae at l2 td ge ni;cases m with
  | zero=>exact wkF [.c 0<|p,.c 2<|lf,.c 2<|cs,.cp 1<|c1,.l 1<|it,.cp 0<|c2,.b 0<|ne,.l 3<|it,.lp 0<|l1,.l 0<|it2,.lp 0<|l2,.b 2<|le,.v 2<|pw18,.b 0<|ge,.c 1<|td,.b 0<|ni] rfl (by kernel_rfl)
  | succ k=>
   have td':=td' k rfl;have z:cmpD .eq (.int ((k+1:Nat) :Int)) (.int 0)=some false:=by rw[c_eqi];exact congrArg some<|beq_eq_false_iff_ne.mpr (by omega)
   exact wkF [.c 0<|p,.c 2<|lf,.c 2<|cs,.cp 1<|c1,.l 1<|it,.cp 0<|c2,.b 0<|ne,.l 3<|it,.lp 0<|l1,.l 0<|it2,.lp 0<|l2,.b 2<|le,.v 2<|pw18,.b 0<|ge,.c 1<|td,.b 0<|ni,.c 4<|td'] rfl (by kernel_rfl)
 .rw[if_neg q]at td;have ge:cmpD .ge (.int ((x ^ m).natAbs:Nat)) (.int 1000000000000000000)=some true:=by rw[c_ge];exact congrArg some (decide_eq_true (by omega))
  obtain⟨⟨r,rfl⟩,_,_,_⟩:=h;generalize x ^ m=ae at l2 ge;exact wkF [.c 0<|p,.c 2<|lf,.c 2<|cs,.cp 1<|c1,.l 1<|it,.cp 0<|c2,.b 0<|ne,.l 3<|it,.lp 0<|l1,.l 0<|it2,.lp 0<|l2,.b 2<|le,.v 2<|pw18,.b 0<|ge,.c 1<|td] rfl (by kernel_rfl)
end Lq
end
section
namespace Lq
open PySem Mv
theorem fit_iff(v:Int) :fitB v=decide (v.natAbs<1000000000000000000):=by unfold fitB;rw[← Bool.decide_and];exact decide_eq_decide.mpr (by show(-1000000000000000000<v∧v<1000000000000000000)↔_;omega)
theorem c_fit{v:Int}{b:Bool}(h:fitB v=b) :cmpD .lt (.int (v.natAbs:Nat)) (.int 1000000000000000000)=some b:=by rw[c_lt,← h,fit_iff];exact congrArg some<|decide_eq_decide.mpr (by omega)
noncomputable def st(y:Int) :List Int→Int→Bool→Int×Bool
 | [],t,g=>(t,g)
 | v::l,t,g=>st y l (t*y+v)<|g&&(fitB (t*y)&&fitB (t*y+v))
theorem st_f(y:Int) :∀(l:List Int)(t:Int),(st y l t false).2=false:=by intro l;induction l with
 | nil=>intro t;rfl
 | cons v l ih=>intro t;exact ih _
theorem sv_st(y:Int) :∀(l:List Int)(t:Int),(sv y l t).1=if (st y l t true).2=true then .ok (st y l t true).1 else .error x_TooGreat:=by intro l;induction l with
 | nil=>intro t;rfl
 | cons v l ih=>
  intro t;rw[sv_c];show _=if (st y l (t*y+v)<|true&&(fitB (t*y)&&fitB (t*y+v))).2=true then Except.ok (st y l (t*y+v)<|true&&(fitB (t*y)&&fitB (t*y+v))).1 else .error x_TooGreat
  cases f:fitB (t*y) with
  | false=>rw[if_neg Bool.false_ne_true,if_neg];rw[show(true&&(false&&fitB (t*y+v)))=false from rfl,st_f];exact Bool.false_ne_true
  | true=>rw[if_pos rfl];cases g:fitB (t*y+v) with
   | false=>rw[if_neg Bool.false_ne_true,if_neg];rw[show(true&&(true&&false))=false from rfl,st_f];exact Bool.false_ne_true
   | true=>rw[if_pos rfl];exact ih _
theorem sv_le(y:Int) :∀(l:List Int)(t:Int),(sv y l t).2≤l.length:=by intro l;induction l with
 | nil=>intro t;exact Nat.le_refl _
 | cons v l ih=>intro t;rw[sv_c];cases fitB (t*y) with
  | false=>exact Nat.zero_le _
  | true=>rw[if_pos rfl];cases fitB (t*y+v) with
   | false=>exact Nat.zero_le _
   | true=>exact Nat.succ_le_succ<|ih _
theorem told_S(n:Nat){b c:Str}(hbc:b≠c)(rs:List Int)(hm:rs.length<200)(y:Int) :cF P (n+8) 22 [.fz<|.tuple<|fsN (.tuple [.str b,.str c]) (RS b c rs)<|rs.length+1,.fz<|.tuple [.int 0,.int y],.fz<|.int (rs.length:Nat)]=okD (if (st y rs 0 true).2=true then .int (st y rs 0 true).1 else s_oth):=by
 obtain⟨K,hK,E⟩:=EvS (n:=n) (pg:=.tuple<|fsN (.tuple [.str b,.str c]) (RS b c rs)<|rs.length+1) (inp:=.tuple [.int 0,.int y]) (m:=(rs.length:Nat)) hbc (rs:=rs) (x:=y) (by exact(lin [rs.length] [] 1 (.nle (.a (.v 0)<|.c 1)<|.c 399) [(1,.nle (.a (.v 0)<|.c 1)<|.c 200)] rfl hm)) rs 0 0 rfl (Nat.zero_add _) (by decide);have h:=run_eq n rs.length _ K (by exact(lin [rs.length] [] 1 (.nle (.a (.v 0)<|.c 1)<|.c 399) [(1,.nle (.a (.v 0)<|.c 1)<|.c 200)] rfl hm)) (Int.natCast_nonneg _) (by exact(lin [K,rs.length] [] 1 (.nle (.v 0)<|.c 1000000) [(12,.nle (.a (.v 1)<|.c 1)<|.c 200),(1,.nle (.v 0)<|.a (.m 12<|.v 1)<|.c 12)] rfl hm hK)) (dz2t hbc (.int 0)<|.int y) E;have q:=sv_le y rs 0;rw[show outM ((rs.length:Nat) :Int) (sv y rs 0).2 (sv y rs 0).1=(sv y rs 0).1 from if_pos (by omega),sv_st]at h;by_cases q:(st y rs 0 true).2=true
 .rw[if_pos q]at h ⊢;exact told_ok _ h
 .rw[if_neg q]at h ⊢;exact told_oth _ h
noncomputable abbrev sB:List St:=[.asg (.one 9)<|.tup [(.lit<|S [100,111]),(.lit<|S [116,105,109,101,115]),(.tup [(.tup [(.lit<|S [110,97,109,101]),(.idx (.var 0)<|.lit<|.int 2)]),(.tup [(.lit<|S [110,97,109,101]),(.idx (.var 0)<|.lit<|.int 3)])])],
   .asg (.one 10) (.tup [(.lit<|S [100,111]),(.lit<|S [112,108,117,115]),(.tup [(.var 9),(.tup [(.lit<|S [118,97,108,117,101]),(.idx (.var 1)<|.var 8)])])]),
   .asg (.one 11) (.tup [(.lit<|S [99,97,108,108]),(.idx (.idx (.var 5)<|.op2 .add (.var 8)<|.lit<|.int 1)<|.lit<|.int 0),(.tup [(.var 10),(.tup [(.lit<|S [110,97,109,101]),(.idx (.var 0)<|.lit<|.int 3)])])]),
   .iff (.not<|.call 18 [(.slc (.idx (.var 5)<|.var 8) (.lit<|.int 1)<|.lit .none),(.tup [(.tup [(.idx (.var 0)<|.lit<|.int 2),(.idx (.var 0)<|.lit<|.int 3)]),(.var 11)])]) [.ret<|.lit<|.bool false] [],
   .asg (.one 7) (.bo true [(.var 7),(.cmp .lt (.bi .abs [(.op2 .mul (.var 6)<|.var 2)])<|.op2 .pow (.lit<|.int 10)<|.lit<|.int 18),(.cmp .lt (.bi .abs [(.op2 .add (.op2 .mul (.var 6)<|.var 2)<|.idx (.var 1)<|.var 8)])<|.op2 .pow (.lit<|.int 10)<|.lit<|.int 18)]),
   .asg (.one 6) (.op2 .add (.op2 .mul (.var 6)<|.var 2)<|.idx (.var 1)<|.var 8)]
section
variable {l:aB}{f a b c:Str}
noncomputable abbrev sF(l W ag:aB)(y:Int)(s3 s4:Mv.Slot)(t:Int)(g:Bool)(s8 s9 s10 s11:Mv.Slot) :List Mv.Slot:=[.fz<|.list l,.fz<|.tuple W,.fz<|.int y,s3,s4,.fz<|.tuple ag,.fz<|.int t,.fz<|.bool g,s8,s9,s10,s11,.no]
theorem s_step(h:Nm l f a b c)(N:Nat)(W ag:aB)(y:Int)(hy:y.natAbs≤1000)(s3 s4:Mv.Slot)(t v:Int)(g:Bool)(k:Nat)(A B C D':Mv.Slot)(aa:Str)(Z af:PyData)
  (iw:idxD (.tuple W) (.int<|0+(k:Int))=some (.int v)) (i1:idxD (.tuple ag) (.int<|0+(k:Int)+1)=some (.tuple [.str aa,af,Z])) (i0:idxD (.tuple ag) (.int<|0+(k:Int))=some (.tuple [.str<|nmS k,.tuple [.str b,.str c],cal aa [gS b c v,nam c]])) (U:List PyData) (Q:Out Ctl) (hQ:∃q,Q=some q)
  (H:∀p q r,forB (cf<|N+10) (sF l W ag y s3 s4 (t*y+v) (g&&(fitB (t*y)&&fitB (t*y+v))) (.fz<|.int<|0+(k:Int)) p q r) (.one 8) sB [8,9,10,11] U=Q) :
  forB (cf<|N+10) (sF l W ag y s3 s4 t g A B C D') (.one 8) sB [8,9,10,11] (.int (0+(k:Int))::U)=Q:=by
 obtain⟨⟨r,rfl⟩,_,_,_⟩:=h;obtain⟨Q,rfl⟩:=hQ;have w:cF P (N+10) 18 [.fz<|.tuple [.tuple [.str b,.str c],cal aa [gS b c v,nam c]],.fz<|.tuple [.tuple [.str b,.str c],cal aa [gS b c v,nam c]]]=okD (.bool true):=
  Sm_2 (n:=N+9) (Sm_2 (n:=N+8) (Sm_s _ _)<|Sm_s _ _) (Sm_c (n:=N+7)<|Sm_2 (n:=N+7) (Sm_c (n:=N+5)<|Sm_2 (n:=N+5) (Sm_c (n:=N+3)<|Sm_2 (n:=N+3) (Sm_nam (N+1) b)<|Sm_nam (N+1) c)<|Sm_val (N+3) v)<|Sm_nam (N+5) c)
 have u:=mul_ok t y hy;have ad:op2 .add (.int<|t*y) (.int v)=some (.fz<|.int<|t*y+v):=rfl;have ef:∀{v:Int}{b:Bool},fitB v=b→cmpD .lt (.int (v.natAbs:Nat)) (.int 1000000000000000000)=some b:=c_fit;have pw:=pw18;generalize (1000000000000000000:Int)=G at ef pw;generalize t*y+v=V2 at ad H;generalize t*y=ae at u ad H;have H:=H (.fz<|doo k_times [nam b,nam c]) (.fz<|gS b c v)<|.fz<|cal aa [gS b c v,nam c];cases g with
 | false=>have H:forB (cf<|N+10) (sF _ W ag y s3 s4 V2 false _ _ _ _) (.one 8) sB [8,9,10,11] U=_:=H;exact wkL [.d 2<|iw,.d 1<|i1,.d 2<|i0,.c 3<|w,.v 3<|u,.d 0<|iw,.v 0<|ad,.lp 0<|H] rfl (by kernel_rfl)
 | true=>cases p:fitB ae with
  | false=>rw[p]at H;have H:forB (cf<|N+10) (sF _ W ag y s3 s4 V2 false _ _ _ _) (.one 8) sB [8,9,10,11] U=_:=H;have e:=ef p;exact wkL [.d 2<|iw,.d 1<|i1,.d 2<|i0,.c 3<|w,.v 3<|u,.v 1<|pw,.b 0<|e,.v 1<|u,.d 0<|iw,.v 0<|ad,.lp 0<|H] rfl (by kernel_rfl)
  | true=>rw[p]at H;have e:=ef p;cases q:fitB V2 with
   | false=>rw[q]at H;have H:forB (cf<|N+10) (sF _ W ag y s3 s4 V2 false _ _ _ _) (.one 8) sB [8,9,10,11] U=_:=H;have e':=ef q;exact wkL [.d 2<|iw,.d 1<|i1,.d 2<|i0,.c 3<|w,.v 3<|u,.v 1<|pw,.b 0<|e,.v 1<|u,.d 0<|iw,.v 0<|ad,.v 1<|pw,.b 0<|e',.v 0<|u,.d 0<|iw,.v 0<|ad,.lp 0<|H] rfl (by kernel_rfl)
   | true=>rw[q]at H;have H:forB (cf<|N+10) (sF _ W ag y s3 s4 V2 true _ _ _ _) (.one 8) sB [8,9,10,11] U=_:=H;have e':=ef q;exact wkL [.d 2<|iw,.d 1<|i1,.d 2<|i0,.c 3<|w,.v 3<|u,.v 1<|pw,.b 0<|e,.v 1<|u,.d 0<|iw,.v 0<|ad,.v 1<|pw,.b 0<|e',.v 0<|u,.d 0<|iw,.v 0<|ad,.lp 0<|H] rfl (by kernel_rfl)
theorem s_loop(h:Nm l f a b c)(N:Nat)(rs:List Int)(y:Int)(hy:y.natAbs≤1000)(s3 s4:Mv.Slot) :∀(r:List Int)(k:Nat)(t:Int)(g:Bool)(A B C D':Mv.Slot),rs.drop k=r→k+r.length=rs.length→
  forB (cf<|N+10) (sF l (rs.map .int) (fsN (.tuple [.str b,.str c]) (RS b c rs)<|rs.length+1) y s3 s4 t g A B C D') (.one 8) sB [8,9,10,11] ((List.range' k r.length).map fun k=>.int<|0+(k:Nat))=some (.ok .next,sF l (rs.map .int) (fsN (.tuple [.str b,.str c]) (RS b c rs)<|rs.length+1) y s3 s4 (st y r t g).1 (st y r t g).2 .no .no .no .no):=by
 intro r;induction r with
 | nil=>intro k t g A B C D' _ _;show forB _ _ _ _ _ []=_;rw[forB_nil];rfl
 | cons v r ih=>
  intro k t g A B C D' hd hk;have hk:k+(r.length+1)=rs.length:=hk;have hv:rs[k]?=some v:=by
   have:=congrArg (·[0]?) hd
   simpa using this
  have iw:idxD (.tuple<|rs.map .int) (.int<|0+(k:Int))=some (.int v):=idx_T (by rw[List.getElem?_map,hv];rfl);have i0:=idx_T<|fs_get (.tuple [.str b,.str c]) (RS b c rs) (m:=rs.length+1) (k:=k) (by exact(lin [k,rs.length,r.length] [] 1 (.nle (.a (.v 0)<|.c 1)<|.a (.v 1)<|.c 1) [(1,.neq (.a (.v 0)<|.a (.v 2)<|.c 1)<|.v 1)] rfl ‹k+(v::r).length=rs.length›));rw[show RS b c rs k=cal (nmS<|k+1) [gS b c v,nam c] by unfold RS;rw[hv]]at i0;have i1:=idx_T<|fs_get (.tuple [.str b,.str c]) (RS b c rs) (m:=rs.length+1) (k:=k+1) (by exact(lin [k,rs.length,r.length] [] 1 (.nle (.a (.a (.v 0)<|.c 1)<|.c 1)<|.a (.v 1)<|.c 1) [(1,.neq (.a (.v 0)<|.a (.v 2)<|.c 1)<|.v 1)] rfl ‹k+(v::r).length=rs.length›));rw[show(0:Int)+((k+1:Nat) :Int)=0+(k:Int)+1 by omega]at i1;exact s_step h N _ _ y hy s3 s4 t v g k A B C D' _ _ _ iw i1 i0 _ _ ⟨_,rfl⟩ fun p q w=>ih (k+1) (t*y+v) (g&&(fitB (t*y)&&fitB (t*y+v))) _ p q w (by rw[← List.tail_drop,hd];rfl) (by exact(Nat.le_antisymm (lin [k,r.length,rs.length] [] 1 (.nle (.a (.a (.v 0)<|.c 1)<|.v 1)<|.v 2) [(1,.neq (.a (.v 0)<|.a (.v 1)<|.c 1)<|.v 2)] rfl ‹k+(v::r).length=rs.length›)<|lin [rs.length,k,r.length] [] 1 (.nle (.v 0)<|.a (.a (.v 1)<|.c 1)<|.v 2) [(-1,.neq (.a (.v 1)<|.a (.v 2)<|.c 1)<|.v 0)] rfl ‹k+(v::r).length=rs.length›))
theorem of_sum_ok(n:Nat)(h:Nm l f a b c)(rs:List Int)(hm:rs.length<200)(y:Int)(hy:y.natAbs≤1000) :cF P (n+16) 24 [.fz<|.list l,.fz<|.tuple<|rs.map .int,.fz<|.int y]=okD (.bool true):=by
 have p:=sum_eq (n+14) h;have lf:=left_eq (n+14)<|worked_S (f:=f) (a:=a) (b:=b) (c:=c) (rs:=rs) h.ab h.ac (by exact(lin [rs.length] [] 1 (.nle (.a (.v 0)<|.c 1)<|.c 398) [(1,.nle (.a (.v 0)<|.c 1)<|.c 200)] rfl hm)) n;have lf:cF P (n+15) 14 [.fz<|prg f (psS a b c)<|bS f a b c,.fz<|.dict<|sdC f wsS,.fz<|.tuple [.tuple<|rs.map .int]]=_:=lf;have g:=s_loop h (n+5) rs y hy (.fz<|prg f (psS a b c)<|bS f a b c) (.fz<|.dict<|sdC f wsS) rs 0 0 true .no .no .no .no rfl<|Nat.zero_add _;rw[← rangeL_eq]at g;have it:=rg_eq (i:=((rs.map PyData.int).length:Nat)) (m:=rs.length) (by rw[List.length_map]) (by exact(lin [rs.length] [] 1 (.nle (.v 0)<|.c 10000) [(1,.nle (.a (.v 0)<|.c 1)<|.c 200)] rfl hm));have le:cmpD .ne (.int (fsN (.tuple [.str b,.str c]) (RS b c rs)<|rs.length+1).length) (.int<|((rs.map PyData.int).length:Nat)+1)=some false:=by rw[fs_len,List.length_map];exact nei_r ((rs.length+1:Nat) :Int)
 have il:idxD (.tuple<|fsN (.tuple [.str b,.str c]) (RS b c rs)<|rs.length+1) (.int<|-1)=some (.tuple [.str<|nmS rs.length,.tuple [.str b,.str c],nam b]):=by
  show(fsN (.tuple [.str b,.str c]) (RS b c rs)<|rs.length+1).getLast? = _
  rw[fs_succ,List.getLast?_concat,show RS b c rs rs.length=nam b by unfold RS;rw[List.getElem?_eq_none<|Nat.le_refl _]]
 have w:cF P (n+15) 18 [.fz<|.tuple [.tuple [.str b,.str c],nam b],.fz<|.tuple [.tuple [.str b,.str c],nam b]]=okD (.bool true):=Sm_2 (n:=n+14) (Sm_2 (n:=n+13) (Sm_s _ _)<|Sm_s _ _)<|Sm_nam (n+12) b;have td:=told_S (n+7) h.bc rs hm y;have td:cF P (n+15) 22 [.fz<|.tuple<|fsN (.tuple [.str b,.str c]) (RS b c rs)<|rs.length+1,.fz<|.tuple [.int 0,.int y],.fz<|.int ((rs.map PyData.int).length:Nat)]=okD (if (st y rs 0 true).2=true then .int (st y rs 0 true).1 else s_oth):=by rw[List.length_map];exact td
 generalize fsN (.tuple [.str b,.str c]) (RS b c rs) (rs.length+1)=ag at lf g le il td;generalize rs.map PyData.int=W at lf g it le td ⊢;generalize rangeL 0 rs.length=U at g it;generalize st y rs 0 true=z at g td;obtain⟨t,q⟩:=z;obtain⟨⟨r,rfl⟩,_,_,_⟩:=h;cases q with
 | true=>have td:_=okD (.int t):=td;have e:=eqi_r t;exact wkF [.c 0<|p,.c 2<|lf,.l 1<|it,.lp 0<|g,.b 6<|le,.d 1<|il,.c 1<|w,.c 3<|td,.b 2<|e] rfl (by kernel_rfl)
 | false=>have td:_=okD s_oth:=td;exact wkF [.c 0<|p,.c 2<|lf,.l 1<|it,.lp 0<|g,.b 6<|le,.d 1<|il,.c 1<|w,.c 3<|td] rfl (by kernel_rfl)
end
end Lq
end
section
namespace Lq
open PySem Mv
theorem dz0t:biD .dzip [.tuple [],.tuple []]=some (.ai<|.dict []):=rfl
theorem out_y(m k:Nat)(r:aA Int)(h:k=m) :outM ((m:Nat) :Int) k r=r:=if_pos (by omega)
theorem out_n(m k:Nat)(r:aA Int)(h:k=m) :outM (((m:Nat) :Int) - 1) k r = .error x_TooLong:=if_neg (by omega)
theorem run_C(n m:Nat)(dp:Bool)(hm:m<398)(t:Int)(ht:0≤t) :cF P (n+7) 16 [.fz<|.tuple<|fsN (.tuple []) (RC m dp)<|m+1,.fz<|.tuple [],.fz<|.int t]=resE (outM t m<|.ok<|cv dp m):=by obtain⟨K,hK,E⟩:=EvC (n:=n) (pg:=.tuple<|fsN (.tuple []) (RC m dp)<|m+1) (inp:=.tuple []) (m:=t) (ah:=m) dp (by exact(lin [m] [] 1 (.nle (.a (.v 0)<|.c 1)<|.c 399) [(1,.nle (.a (.v 0)<|.c 1)<|.c 398)] rfl hm)) m 0 0 (Nat.zero_add _) (by show 0+4*m+4≤1000000;exact(lin [m] [] 1 (.nle (.a (.a (.c 0)<|.m 4<|.v 0)<|.c 4)<|.c 1000000) [(4,.nle (.a (.v 0)<|.c 1)<|.c 398)] rfl hm));exact run_eq n m m K (by exact(lin [m] [] 1 (.nle (.a (.v 0)<|.c 1)<|.c 399) [(1,.nle (.a (.v 0)<|.c 1)<|.c 398)] rfl hm)) ht (by exact(lin [K,m] [] 1 (.nle (.v 0)<|.c 1000000) [(8,.nle (.a (.v 1)<|.c 1)<|.c 398),(1,.nle (.v 0)<|.a (.m 8<|.v 1)<|.c 1)] rfl hm hK)) dz0t E
theorem run_U(n m:Nat)(a:Str)(dp:Bool)(hm:m≤2000)(t:Int)(ht:0≤t) :cF P (n+7) 16 [.fz<|.tuple<|fsN (.tuple [.str a]) (fun j0_=>RU a dp) 1,.fz<|.tuple [.int (m:Nat)],.fz<|.int t]=resE (outM t m<|.ok<|cv dp m):=by obtain⟨K,hK,E⟩:=EvU (n:=n) (pg:=.tuple<|fsN (.tuple [.str a]) (fun j0_=>RU a dp) 1) (inp:=.tuple [.int (m:Nat)]) (m:=t) (a:=a) dp m 0 hm (by show 0+4*m+4≤1000000;exact(lin [m] [] 1 (.nle (.a (.a (.c 0)<|.m 4<|.v 0)<|.c 4)<|.c 1000000) [(4,.nle (.v 0)<|.c 2000)] rfl hm));exact run_eq (R:=fun j0_=>RU a dp) n 0 m K (by decide) ht (by exact(lin [K,m] [] 1 (.nle (.v 0)<|.c 1000000) [(12,.nle (.v 1)<|.c 2000),(1,.nle (.v 0)<|.a (.m 12<|.v 1)<|.c 4)] rfl hm hK)) (dz1t a<|.int (m:Nat)) E
theorem ne_int{a b:Int}(h:a=b) :cmpD .ne (.int a) (.int b)=some false:=by rw[h];exact nei_r b
section
variable {l:aB}{f a b c:Str}
theorem cnt_T(h:Nm l f a b c)(N m:Nat)(dp:Bool)(ag:aB)(lf:cF P N 14 [.fz<|prg f (.tuple [.str a])<|bC f a dp,.fz<|.dict<|sdC f<|.tuple [.bool true],.fz<|.tuple [.int (m:Nat)]]=okD (.tuple ag))(le:ag.length=m+1)(td:cF P N 22 [.fz<|.tuple ag,.fz<|.tuple [],.fz<|.int (m:Nat)]=okD (.int<|cv dp m))(td':cF P N 22 [.fz<|.tuple ag,.fz<|.tuple [],.fz<|.int<|(m:Nat) - 1]=okD s_long) :
  cF P (N+1) 25 [.fz<|.list l,.fz<|.int (m:Nat),.fz<|.bool true,.fz<|.bool dp]=okD (.bool true):=by
 obtain⟨⟨r,rfl⟩,_,_,_⟩:=h;have m1:=mul_ok (m:Nat) 1 (by decide);have m0:=mul_ok (m:Nat) 0 (by decide);have l1:cmpD .ne (.int (ag.length:Nat)) (.int<|1+(m:Nat)*1)=some false:=ne_int (by rw[le];omega);cases dp with
 | true=>have v1:cmpD .ne (.int<|cv true m) (.int<|7+(m:Nat)*1)=some false:=ne_int (by show 7+(m:Int)=_;omega);generalize cv true m=ae at td v1;generalize (m:Int)*1=W at m1 l1 v1;exact wkF [.c 10<|lf,.v 5<|m1,.b 1<|l1,.c 1<|td,.v 1<|m1,.b 1<|v1,.c 2<|td'] rfl (by kernel_rfl)
 | false=>have v1:cmpD .ne (.int<|cv false m) (.int<|7+(m:Nat)*0)=some false:=ne_int (by show(7:Int)=_;omega);generalize cv false m=ae at td v1;generalize (m:Int)*1=W at m1 l1;generalize (m:Int)*0=W' at m0 v1;exact wkF [.c 10<|lf,.v 5<|m1,.b 1<|l1,.c 1<|td,.v 1<|m0,.b 1<|v1,.c 2<|td'] rfl (by kernel_rfl)
theorem cnt_F(h:Nm l f a b c)(N m:Nat)(dp:Bool)(ag:aB)(lf:cF P N 14 [.fz<|prg f (.tuple [.str a])<|bC f a dp,.fz<|.dict<|sdC f<|.tuple [.bool false],.fz<|.tuple []]=okD (.tuple ag))(le:ag.length=1)(td:cF P N 22 [.fz<|.tuple ag,.fz<|.tuple [.int (m:Nat)],.fz<|.int (m:Nat)]=okD (.int<|cv dp m))(td':cF P N 22 [.fz<|.tuple ag,.fz<|.tuple [.int (m:Nat)],.fz<|.int<|(m:Nat) - 1]=okD s_long) :
  cF P (N+1) 25 [.fz<|.list l,.fz<|.int (m:Nat),.fz<|.bool false,.fz<|.bool dp]=okD (.bool true):=by
 obtain⟨⟨r,rfl⟩,_,_,_⟩:=h;have m1:=mul_ok (m:Nat) 1 (by decide);have m0:=mul_ok (m:Nat) 0 (by decide);have l1:cmpD .ne (.int (ag.length:Nat)) (.int<|1+(m:Nat)*0)=some false:=ne_int (by rw[le];omega);cases dp with
 | true=>have v1:cmpD .ne (.int<|cv true m) (.int<|7+(m:Nat)*1)=some false:=ne_int (by show 7+(m:Int)=_;omega);generalize cv true m=ae at td v1;generalize (m:Int)*1=W at m1 v1;generalize (m:Int)*0=W' at m0 l1;exact wkF [.c 10<|lf,.v 5<|m0,.b 1<|l1,.c 1<|td,.v 1<|m1,.b 1<|v1,.c 2<|td'] rfl (by kernel_rfl)
 | false=>have v1:cmpD .ne (.int<|cv false m) (.int<|7+(m:Nat)*0)=some false:=ne_int (by show(7:Int)=_;omega);generalize cv false m=ae at td v1;generalize (m:Int)*0=W' at m0 v1 l1;exact wkF [.c 10<|lf,.v 5<|m0,.b 1<|l1,.c 1<|td,.v 1<|m0,.b 1<|v1,.c 2<|td'] rfl (by kernel_rfl)
theorem count_ok(n:Nat)(h:Nm l f a b c)(m:Nat)(kn dp:Bool)(h1:1≤m)(h2:m≤2000)(hk:kn=true→m<398) :cF P (n+18) 25 [.fz<|.list l,.fz<|.int (m:Nat),.fz<|.bool kn,.fz<|.bool dp]=okD (.bool true):=by cases kn with
 | true=>
  have hm:=hk rfl;have wp:=worked_C (f:=f) (a:=a) (m:=m) dp hm n;have k0:knI m 0=[.int (m:Nat)]:=by show [PyData.int<|(m:Int) - ((0:Nat) :Int)]=_;rw[Int.natCast_zero,Int.sub_zero]
  rw[k0]at wp;have r1:=run_C (n+9) m dp hm m<|Int.natCast_nonneg _;have r2:=run_C (n+9) m dp hm ((m:Nat) - 1) (by omega);rw[out_y m m _ rfl]at r1;rw[out_n m m _ rfl]at r2;exact cnt_T h (n+17) m dp _ (left_eq (n+16) wp) (fs_len _ _ _) (told_ok _ r1)<|told_long _ r2
 | false=>have r1:=run_U (n+9) m a dp h2 m<|Int.natCast_nonneg _;have r2:=run_U (n+9) m a dp h2 ((m:Nat) - 1) (by omega);rw[out_y m m _ rfl]at r1;rw[out_n m m _ rfl]at r2;exact cnt_F h (n+17) m dp _ (left_eq (n+16)<|worked_U (f:=f) (a:=a) dp<|n+4) (fs_len _ _ _) (told_ok _ r1)<|told_long _ r2
end
end Lq
end
section
namespace Lq
open PySem Mv
noncomputable def cell(M:List Int)(k:Nat) :Int:=(M[k]?).getD 0
theorem cell_eq(n:Nat)(M:List Int)(k:Nat) :cF P (n+1) 17 [.fz<|.list<|M.map .int,.fz<|.int k]=okD (.int<|cell M k):=by
 by_cases h:k<M.length
 .have q:cmpD .lt (.int k) (.int (M.map PyData.int).length)=some true:=by rw[ltI,List.length_map];exact congrArg some (decide_eq_true<|Int.ofNat_lt.mpr h)
  have i:idxD (.list<|M.map .int) (.int k)=some (.int<|cell M k):=by
   show idxOf _ _=_
   unfold idxOf cell;rw[if_pos<|Int.natCast_nonneg _,Int.toNat_natCast,List.getElem?_map,List.getElem?_eq_getElem h];rfl
  exact wkF [.b 1<|q,.d 1<|i] rfl (by kernel_rfl)
 .have q:cmpD .lt (.int k) (.int (M.map PyData.int).length)=some false:=by rw[ltI,List.length_map];exact congrArg some (decide_eq_false (fun e=>h<|Int.ofNat_lt.mp e))
  rw[show cell M k=0 by unfold cell;rw[List.getElem?_eq_none<|Nat.not_lt.mp h];rfl];exact wkF [.b 1<|q] rfl (by kernel_rfl)
theorem pw17:op2 .pow (.int 10) (.int 17)=some (.fz<|.int 100000000000000000):=by kernel_rfl
noncomputable def clk(M:List Int)(k:Nat) :Int:=cell M (4+k % 50)+(0+(k:Int)).fdiv 50
noncomputable def rwk(M:List Int)(w:Bool)(k:Nat) :Int:=if w=true then(clk M k).fmod 100000000000000000 else(clk M k).fmod 19 - 9
noncomputable abbrev rwB:List St:=[.asg (.one 4)<|.op2 .add (.call 17 [(.var 0),(.op2 .add (.lit<|.int 4)<|.op2 .mod (.var 6)<|.lit<|.int 50)])<|.op2 .fdiv (.var 6)<|.lit<|.int 50,
   .app (.var 5) (.idx (.list [(.op2 .sub (.op2 .mod (.var 4)<|.lit<|.int 19)<|.lit<|.int 9),(.op2 .mod (.var 4)<|.op2 .pow (.lit<|.int 10)<|.lit<|.int 17)])<|.bi .int [(.cmp .eq (.op2 .mod (.op2 .fdiv (.call 17 [(.var 0),(.lit<|.int 3)])<|.lit<|.int 2)<|.lit<|.int 6)<|.lit<|.int 1)])]
noncomputable abbrev vF(M:List Int)(s1 s2 s3 s4:Mv.Slot)(ys:List Int)(s6:Mv.Slot) :List Mv.Slot:=[.fz<|.list<|M.map .int,s1,s2,s3,s4,.ai<|.list<|ys.map .int,s6]
theorem r_loop(N:Nat)(M:List Int)(w:Bool)(hw:cmpD .eq (.int<|((cell M 3).fdiv 2).fmod 6) (.int 1)=some w)(s1 s2 s3:Mv.Slot) :∀(d k:Nat)(ys:List Int)(s4 s6:Mv.Slot),k+d≤1000→ys.length=k→
  forB (cf<|N+1) (vF M s1 s2 s3 s4 ys s6) (.one 6) rwB [4,6] ((List.range' k d).map fun k=>.int<|0+(k:Nat))=some (.ok .next,vF M s1 s2 s3 .no (ys++(List.range' k d).map (rwk M w)) .no):=by
 intro d;induction d with
 | zero=>intro k ys s4 s6 _ _;show forB _ _ _ _ _ []=some (_,vF M s1 s2 s3 .no (ys++[]) .no);rw[List.append_nil,forB_nil];rfl
 | succ d ih=>
  intro k ys s4 s6 hk hy;have g:=ih (k+1) (ys++[rwk M w k]) (.fz<|.int<|clk M k) (.fz<|.int<|0+(k:Nat)) (by exact(lin [k,d] [] 1 (.nle (.a (.a (.v 0)<|.c 1)<|.v 1)<|.c 1000) [(1,.nle (.a (.v 0)<|.a (.v 1)<|.c 1)<|.c 1000)] rfl hk)) (by rw[List.length_append,hy];rfl);rw[List.append_assoc]at g;have c:=cell_eq N M<|4+k % 50;rw[show((4+k % 50:Nat) :Int)=4+(0+(k:Int)).fmod 50 by rw[fm _ (by decide)];omega]at c;have c3:cF P (N+1) 17 [.fz<|.list<|M.map .int,.fz<|.int 3]=okD (.int<|cell M 3):=cell_eq N M 3;have z:decide ((ys.map PyData.int).length<Sz)=true:=decide_eq_true (by rw[List.length_map,hy];show k<16777216;exact(lin [k,d] [] 1 (.nle (.a (.v 0)<|.c 1)<|.c 16777216) [(1,.nle (.a (.v 0)<|.a (.v 1)<|.c 1)<|.c 1000)] rfl hk));have ad:op2 .add (.int<|cell M<|4+k % 50) (.int<|(0+(k:Int)).fdiv 50)=some (.fz<|.int<|clk M k):=rfl;have pw:=pw17;have mo:op2 .mod (.int<|clk M k) (.int 100000000000000000)=some (.fz<|.int<|(clk M k).fmod 100000000000000000):=by rw[o_mod,if_neg (by decide)]
  show forB (cf<|N+1) (vF M s1 s2 s3 s4 ys s6) (.one 6) rwB [4,6] (.int (0+(k:Nat))::(List.range' (k+1) d).map fun k=>.int<|0+(k:Nat))=some (_,vF M s1 s2 s3 .no (ys++([rwk M w k]++(List.range' (k+1) d).map (rwk M w))) .no)
  have e:(ys++[rwk M w k]).map PyData.int=ys.map .int++[.int<|rwk M w k]:=List.map_append;unfold vF at g ⊢;rw[e]at g;generalize (ys++([rwk M w k]++(List.range' (k+1) d).map (rwk M w))).map PyData.int=ae at g ⊢;generalize (List.range' (k+1) d).map (fun k=>PyData.int<|0+(k:Nat))=U at g ⊢;generalize ys.map PyData.int=aa at g z ⊢;generalize cell M (4+k % 50)=C at c ad;generalize cell M 3=C3 at c3 hw;cases w with
  | true=>rw[show rwk M true k=(clk M k).fmod 100000000000000000 from if_pos rfl]at g;generalize clk M k=K at g ad mo;generalize K.fmod 100000000000000000=R at g mo;generalize (100000000000000000:Int)=G at pw mo;generalize M.map PyData.int=ag at g c c3 ⊢;exact wkL [.c 2<|c,.v 1<|ad,.v 2<|pw,.v 0<|mo,.c 0<|c3,.b 2<|hw,.t 2<|z,.lp 0<|g] rfl (by kernel_rfl)
  | false=>rw[show rwk M false k=(clk M k).fmod 19 - 9 from if_neg Bool.false_ne_true]at g;generalize clk M k=K at g ad mo;generalize K.fmod 100000000000000000=R at mo;generalize (100000000000000000:Int)=G at pw mo;generalize M.map PyData.int=ag at g c c3 ⊢;exact wkL [.c 2<|c,.v 1<|ad,.v 2<|pw,.v 0<|mo,.c 0<|c3,.b 2<|hw,.t 2<|z,.lp 0<|g] rfl (by kernel_rfl)
theorem fm_b(x:Int){b:Int}(h:0<b) :0≤x.fmod b∧x.fmod b<b:=⟨Int.fmod_nonneg_of_pos x h,Int.fmod_lt_of_pos x h⟩
theorem md_n(x:Int)(b:Nat)(h:0<b) :∃m:Nat,m<b∧op2 .mod (.int x) (.int (b:Nat))=some (.fz<|.int (m:Nat)):=by have:=fm_b x (show(0:Int)<(b:Nat) by omega);refine⟨(x.fmod b).toNat,by omega,?_⟩;rw[o_mod,if_neg (by omega),Int.toNat_of_nonneg this.1]
section
variable {l:aB}{f a b c:Str}
theorem law_cF0(n:Nat)(M:List Int)(hn:cF P (n+18) 19 [.fz<|.int<|cell M 0]=owL l)(h:Nm l f a b c)(q:cmpD .eq (.int<|((cell M 3).fdiv 12).fmod 12) (.int 1)=some true)(e0:cmpD .eq (.int<|(cell M 1).fmod 2) (.int 0)=some true)(e1:cmpD .eq (.int<|(cell M 1).fmod 2) (.int 1)=some false) :cF P (n+19) 26 [.fz<|.list<|M.map .int]=okD (.bool true):=by
 have c0:cF P (n+18) 17 [.fz<|.list<|M.map .int,.fz<|.int 0]=okD (.int<|cell M 0):=cell_eq (n+17) M 0;have c1:cF P (n+18) 17 [.fz<|.list<|M.map .int,.fz<|.int 1]=okD (.int<|cell M 1):=cell_eq (n+17) M 1;have c2:cF P (n+18) 17 [.fz<|.list<|M.map .int,.fz<|.int 2]=okD (.int<|cell M 2):=cell_eq (n+17) M 2;have c3:cF P (n+18) 17 [.fz<|.list<|M.map .int,.fz<|.int 3]=okD (.int<|cell M 3):=cell_eq (n+17) M 3;obtain⟨m,hm,om⟩:=md_n (cell M 2) 25 (by decide);have om:op2 .mod (.int<|cell M 2) (.int 25)=some (.fz<|.int (m:Nat)):=om;have b1:=fm_b (cell M 1) (show(0:Int)<19 by decide);obtain⟨p,hp,op⟩:=md_n (cell M 2) 150 (by decide);have op:op2 .mod (.int<|cell M 2) (.int 150)=some (.fz<|.int (p:Nat)):=op;obtain⟨dp,hd⟩ :∃dp,cmpD .gt (.int<|((cell M 1).fdiv 2).fmod 3) (.int 0)=some dp:=⟨_,rfl⟩
 have k:=count_ok n h (1100+p) false dp (by omega) (by omega) (fun e=>nomatch e);rw[show((1100+p:Nat) :Int)=1100+(p:Int) by omega]at k;generalize cell M 0=C0 at *;generalize cell M 1=C1 at *;generalize cell M 2=C2 at *;generalize cell M 3=C3 at *;generalize M.map PyData.int=ag at *;exact wkF [.c 0<|c0,.c 0<|hn,.c 0<|c1,.c 2<|c2,.v 0<|om,.c 0<|c3,.b 2<|q,.c 1<|c1,.b 1<|e0,.c 2<|c2,.v 0<|op,.b 2<|e1,.b 2<|hd,.c 0<|k] rfl (by kernel_rfl)
theorem law_cF1(n:Nat)(M:List Int)(hn:cF P (n+18) 19 [.fz<|.int<|cell M 0]=okD (.list l))(h:Nm l f a b c)(q:cmpD .eq (.int<|((cell M 3).fdiv 12).fmod 12) (.int 1)=some true)(e0:cmpD .eq (.int<|(cell M 1).fmod 2) (.int 0)=some true)(e1:cmpD .eq (.int<|(cell M 1).fmod 2) (.int 1)=some false) :cF P (n+19) 26 [.fz<|.list<|M.map .int]=okD (.bool true):=by
 have c0:cF P (n+18) 17 [.fz<|.list<|M.map .int,.fz<|.int 0]=okD (.int<|cell M 0):=cell_eq (n+17) M 0;have c1:cF P (n+18) 17 [.fz<|.list<|M.map .int,.fz<|.int 1]=okD (.int<|cell M 1):=cell_eq (n+17) M 1;have c2:cF P (n+18) 17 [.fz<|.list<|M.map .int,.fz<|.int 2]=okD (.int<|cell M 2):=cell_eq (n+17) M 2;have c3:cF P (n+18) 17 [.fz<|.list<|M.map .int,.fz<|.int 3]=okD (.int<|cell M 3):=cell_eq (n+17) M 3;obtain⟨m,hm,om⟩:=md_n (cell M 2) 25 (by decide);have om:op2 .mod (.int<|cell M 2) (.int 25)=some (.fz<|.int (m:Nat)):=om;have b1:=fm_b (cell M 1) (show(0:Int)<19 by decide);obtain⟨p,hp,op⟩:=md_n (cell M 2) 150 (by decide);have op:op2 .mod (.int<|cell M 2) (.int 150)=some (.fz<|.int (p:Nat)):=op;obtain⟨dp,hd⟩ :∃dp,cmpD .gt (.int<|((cell M 1).fdiv 2).fmod 3) (.int 0)=some dp:=⟨_,rfl⟩
 have k:=count_ok n h (1100+p) false dp (by omega) (by omega) (fun e=>nomatch e);rw[show((1100+p:Nat) :Int)=1100+(p:Int) by omega]at k;generalize cell M 0=C0 at *;generalize cell M 1=C1 at *;generalize cell M 2=C2 at *;generalize cell M 3=C3 at *;generalize M.map PyData.int=ag at *;exact wkF [.c 0<|c0,.c 0<|hn,.c 0<|c1,.c 2<|c2,.v 0<|om,.c 0<|c3,.b 2<|q,.c 1<|c1,.b 1<|e0,.c 2<|c2,.v 0<|op,.b 2<|e1,.b 2<|hd,.c 0<|k] rfl (by kernel_rfl)
theorem law_cT0(n:Nat)(M:List Int)(hn:cF P (n+18) 19 [.fz<|.int<|cell M 0]=owL l)(h:Nm l f a b c)(q:cmpD .eq (.int<|((cell M 3).fdiv 12).fmod 12) (.int 1)=some true)(e0:cmpD .eq (.int<|(cell M 1).fmod 2) (.int 0)=some false)(e1:cmpD .eq (.int<|(cell M 1).fmod 2) (.int 1)=some true) :cF P (n+19) 26 [.fz<|.list<|M.map .int]=okD (.bool true):=by
 have c0:cF P (n+18) 17 [.fz<|.list<|M.map .int,.fz<|.int 0]=okD (.int<|cell M 0):=cell_eq (n+17) M 0;have c1:cF P (n+18) 17 [.fz<|.list<|M.map .int,.fz<|.int 1]=okD (.int<|cell M 1):=cell_eq (n+17) M 1;have c2:cF P (n+18) 17 [.fz<|.list<|M.map .int,.fz<|.int 2]=okD (.int<|cell M 2):=cell_eq (n+17) M 2;have c3:cF P (n+18) 17 [.fz<|.list<|M.map .int,.fz<|.int 3]=okD (.int<|cell M 3):=cell_eq (n+17) M 3;obtain⟨m,hm,om⟩:=md_n (cell M 2) 25 (by decide);have om:op2 .mod (.int<|cell M 2) (.int 25)=some (.fz<|.int (m:Nat)):=om;have b1:=fm_b (cell M 1) (show(0:Int)<19 by decide);obtain⟨p,hp,op⟩:=md_n (cell M 2) 150 (by decide);have op:op2 .mod (.int<|cell M 2) (.int 150)=some (.fz<|.int (p:Nat)):=op;obtain⟨dp,hd⟩ :∃dp,cmpD .gt (.int<|((cell M 1).fdiv 2).fmod 3) (.int 0)=some dp:=⟨_,rfl⟩
 have k:=count_ok n h (200+p) true dp (by omega) (by omega) (fun j0_=>by omega);rw[show((200+p:Nat) :Int)=200+(p:Int) by omega]at k;generalize cell M 0=C0 at *;generalize cell M 1=C1 at *;generalize cell M 2=C2 at *;generalize cell M 3=C3 at *;generalize M.map PyData.int=ag at *;exact wkF [.c 0<|c0,.c 0<|hn,.c 0<|c1,.c 2<|c2,.v 0<|om,.c 0<|c3,.b 2<|q,.c 1<|c1,.b 1<|e0,.c 2<|c2,.v 0<|op,.b 2<|e1,.b 2<|hd,.c 0<|k] rfl (by kernel_rfl)
theorem law_cT1(n:Nat)(M:List Int)(hn:cF P (n+18) 19 [.fz<|.int<|cell M 0]=okD (.list l))(h:Nm l f a b c)(q:cmpD .eq (.int<|((cell M 3).fdiv 12).fmod 12) (.int 1)=some true)(e0:cmpD .eq (.int<|(cell M 1).fmod 2) (.int 0)=some false)(e1:cmpD .eq (.int<|(cell M 1).fmod 2) (.int 1)=some true) :cF P (n+19) 26 [.fz<|.list<|M.map .int]=okD (.bool true):=by
 have c0:cF P (n+18) 17 [.fz<|.list<|M.map .int,.fz<|.int 0]=okD (.int<|cell M 0):=cell_eq (n+17) M 0;have c1:cF P (n+18) 17 [.fz<|.list<|M.map .int,.fz<|.int 1]=okD (.int<|cell M 1):=cell_eq (n+17) M 1;have c2:cF P (n+18) 17 [.fz<|.list<|M.map .int,.fz<|.int 2]=okD (.int<|cell M 2):=cell_eq (n+17) M 2;have c3:cF P (n+18) 17 [.fz<|.list<|M.map .int,.fz<|.int 3]=okD (.int<|cell M 3):=cell_eq (n+17) M 3;obtain⟨m,hm,om⟩:=md_n (cell M 2) 25 (by decide);have om:op2 .mod (.int<|cell M 2) (.int 25)=some (.fz<|.int (m:Nat)):=om;have b1:=fm_b (cell M 1) (show(0:Int)<19 by decide);obtain⟨p,hp,op⟩:=md_n (cell M 2) 150 (by decide);have op:op2 .mod (.int<|cell M 2) (.int 150)=some (.fz<|.int (p:Nat)):=op;obtain⟨dp,hd⟩ :∃dp,cmpD .gt (.int<|((cell M 1).fdiv 2).fmod 3) (.int 0)=some dp:=⟨_,rfl⟩
 have k:=count_ok n h (200+p) true dp (by omega) (by omega) (fun j0_=>by omega);rw[show((200+p:Nat) :Int)=200+(p:Int) by omega]at k;generalize cell M 0=C0 at *;generalize cell M 1=C1 at *;generalize cell M 2=C2 at *;generalize cell M 3=C3 at *;generalize M.map PyData.int=ag at *;exact wkF [.c 0<|c0,.c 0<|hn,.c 0<|c1,.c 2<|c2,.v 0<|om,.c 0<|c3,.b 2<|q,.c 1<|c1,.b 1<|e0,.c 2<|c2,.v 0<|op,.b 2<|e1,.b 2<|hd,.c 0<|k] rfl (by kernel_rfl)
theorem law_p0(n:Nat)(M:List Int)(hn:cF P (n+18) 19 [.fz<|.int<|cell M 0]=owL l)(h:Nm l f a b c)(q:cmpD .eq (.int<|((cell M 3).fdiv 12).fmod 12) (.int 1)=some false)(e:cmpD .eq (.int<|(cell M 3).fmod 2) (.int 0)=some true) :cF P (n+19) 26 [.fz<|.list<|M.map .int]=okD (.bool true):=by have c0:cF P (n+18) 17 [.fz<|.list<|M.map .int,.fz<|.int 0]=okD (.int<|cell M 0):=cell_eq (n+17) M 0;have c1:cF P (n+18) 17 [.fz<|.list<|M.map .int,.fz<|.int 1]=okD (.int<|cell M 1):=cell_eq (n+17) M 1;have c2:cF P (n+18) 17 [.fz<|.list<|M.map .int,.fz<|.int 2]=okD (.int<|cell M 2):=cell_eq (n+17) M 2;have c3:cF P (n+18) 17 [.fz<|.list<|M.map .int,.fz<|.int 3]=okD (.int<|cell M 3):=cell_eq (n+17) M 3;obtain⟨m,hm,om⟩:=md_n (cell M 2) 25 (by decide);have om:op2 .mod (.int<|cell M 2) (.int 25)=some (.fz<|.int (m:Nat)):=om;have b1:=fm_b (cell M 1) (show(0:Int)<19 by decide);have k:=of_power_ok n h m (by omega) ((cell M 1).fmod 19 - 9) (by omega);generalize cell M 0=C0 at *;generalize cell M 1=C1 at *;generalize cell M 2=C2 at *;generalize cell M 3=C3 at *;generalize M.map PyData.int=ag at *;exact wkF [.c 0<|c0,.c 0<|hn,.c 0<|c1,.c 2<|c2,.v 0<|om,.c 0<|c3,.b 2<|q,.c 1<|c3,.b 1<|e,.c 1<|k] rfl (by kernel_rfl)
theorem law_p1(n:Nat)(M:List Int)(hn:cF P (n+18) 19 [.fz<|.int<|cell M 0]=okD (.list l))(h:Nm l f a b c)(q:cmpD .eq (.int<|((cell M 3).fdiv 12).fmod 12) (.int 1)=some false)(e:cmpD .eq (.int<|(cell M 3).fmod 2) (.int 0)=some true) :cF P (n+19) 26 [.fz<|.list<|M.map .int]=okD (.bool true):=by have c0:cF P (n+18) 17 [.fz<|.list<|M.map .int,.fz<|.int 0]=okD (.int<|cell M 0):=cell_eq (n+17) M 0;have c1:cF P (n+18) 17 [.fz<|.list<|M.map .int,.fz<|.int 1]=okD (.int<|cell M 1):=cell_eq (n+17) M 1;have c2:cF P (n+18) 17 [.fz<|.list<|M.map .int,.fz<|.int 2]=okD (.int<|cell M 2):=cell_eq (n+17) M 2;have c3:cF P (n+18) 17 [.fz<|.list<|M.map .int,.fz<|.int 3]=okD (.int<|cell M 3):=cell_eq (n+17) M 3;obtain⟨m,hm,om⟩:=md_n (cell M 2) 25 (by decide);have om:op2 .mod (.int<|cell M 2) (.int 25)=some (.fz<|.int (m:Nat)):=om;have b1:=fm_b (cell M 1) (show(0:Int)<19 by decide);have k:=of_power_ok n h m (by omega) ((cell M 1).fmod 19 - 9) (by omega);generalize cell M 0=C0 at *;generalize cell M 1=C1 at *;generalize cell M 2=C2 at *;generalize cell M 3=C3 at *;generalize M.map PyData.int=ag at *;exact wkF [.c 0<|c0,.c 0<|hn,.c 0<|c1,.c 2<|c2,.v 0<|om,.c 0<|c3,.b 2<|q,.c 1<|c3,.b 1<|e,.c 1<|k] rfl (by kernel_rfl)
theorem law_s0(n:Nat)(M:List Int)(hn:cF P (n+18) 19 [.fz<|.int<|cell M 0]=owL l)(h:Nm l f a b c)(q:cmpD .eq (.int<|((cell M 3).fdiv 12).fmod 12) (.int 1)=some false)(e:cmpD .eq (.int<|(cell M 3).fmod 2) (.int 0)=some false) :cF P (n+19) 26 [.fz<|.list<|M.map .int]=okD (.bool true):=by
 have c0:cF P (n+18) 17 [.fz<|.list<|M.map .int,.fz<|.int 0]=okD (.int<|cell M 0):=cell_eq (n+17) M 0;have c1:cF P (n+18) 17 [.fz<|.list<|M.map .int,.fz<|.int 1]=okD (.int<|cell M 1):=cell_eq (n+17) M 1;have c2:cF P (n+18) 17 [.fz<|.list<|M.map .int,.fz<|.int 2]=okD (.int<|cell M 2):=cell_eq (n+17) M 2;have c3:cF P (n+18) 17 [.fz<|.list<|M.map .int,.fz<|.int 3]=okD (.int<|cell M 3):=cell_eq (n+17) M 3;obtain⟨m,hm,om⟩:=md_n (cell M 2) 25 (by decide);have om:op2 .mod (.int<|cell M 2) (.int 25)=some (.fz<|.int (m:Nat)):=om;have b1:=fm_b (cell M 1) (show(0:Int)<19 by decide);obtain⟨w,hw⟩ :∃w,cmpD .eq (.int<|((cell M 3).fdiv 2).fmod 6) (.int 1)=some w:=⟨_,rfl⟩
 have b4:=fm_b ((cell M 1).fmod 19 - 9) (show(0:Int)<4 by decide);have k:=of_sum_ok (n+2) h ((List.range' 0<|2*m).map<|rwk M w) (by rw[List.length_map,List.length_range'];omega) (((cell M 1).fmod 19 - 9).fmod 4) (by omega);have g:=r_loop (n+17) M w hw (.ai<|.list l) (.fz<|.int<|(cell M 1).fmod 19 - 9) (.fz<|.int (m:Nat)) (2*m) 0 [] .no .no (by omega) rfl;unfold vF at g;rw[← rangeL_eq,List.nil_append,List.map_nil]at g;have it:=rg_eq (i:=2*(m:Int)) (m:=2*m) (by omega) (by omega);generalize ((List.range' 0<|2*m).map<|rwk M w).map PyData.int=ae at g k;generalize rangeL 0 (2*m)=U at g it;generalize cell M 0=C0 at *;generalize cell M 1=C1 at *;generalize cell M 2=C2 at *;generalize cell M 3=C3 at *;generalize M.map PyData.int=ag at *;exact wkF [.c 0<|c0,.c 0<|hn,.c 0<|c1,.c 2<|c2,.v 0<|om,.c 0<|c3,.b 2<|q,.c 1<|c3,.b 1<|e,.l 2<|it,.lp 0<|g,.c 2<|k] rfl (by kernel_rfl)
theorem law_s1(n:Nat)(M:List Int)(hn:cF P (n+18) 19 [.fz<|.int<|cell M 0]=okD (.list l))(h:Nm l f a b c)(q:cmpD .eq (.int<|((cell M 3).fdiv 12).fmod 12) (.int 1)=some false)(e:cmpD .eq (.int<|(cell M 3).fmod 2) (.int 0)=some false) :cF P (n+19) 26 [.fz<|.list<|M.map .int]=okD (.bool true):=by
 have c0:cF P (n+18) 17 [.fz<|.list<|M.map .int,.fz<|.int 0]=okD (.int<|cell M 0):=cell_eq (n+17) M 0;have c1:cF P (n+18) 17 [.fz<|.list<|M.map .int,.fz<|.int 1]=okD (.int<|cell M 1):=cell_eq (n+17) M 1;have c2:cF P (n+18) 17 [.fz<|.list<|M.map .int,.fz<|.int 2]=okD (.int<|cell M 2):=cell_eq (n+17) M 2;have c3:cF P (n+18) 17 [.fz<|.list<|M.map .int,.fz<|.int 3]=okD (.int<|cell M 3):=cell_eq (n+17) M 3;obtain⟨m,hm,om⟩:=md_n (cell M 2) 25 (by decide);have om:op2 .mod (.int<|cell M 2) (.int 25)=some (.fz<|.int (m:Nat)):=om;have b1:=fm_b (cell M 1) (show(0:Int)<19 by decide);obtain⟨w,hw⟩ :∃w,cmpD .eq (.int<|((cell M 3).fdiv 2).fmod 6) (.int 1)=some w:=⟨_,rfl⟩
 have b4:=fm_b ((cell M 1).fmod 19 - 9) (show(0:Int)<4 by decide);have k:=of_sum_ok (n+2) h ((List.range' 0<|2*m).map<|rwk M w) (by rw[List.length_map,List.length_range'];omega) (((cell M 1).fmod 19 - 9).fmod 4) (by omega);have g:=r_loop (n+17) M w hw (.fz<|.list l) (.fz<|.int<|(cell M 1).fmod 19 - 9) (.fz<|.int (m:Nat)) (2*m) 0 [] .no .no (by omega) rfl;unfold vF at g;rw[← rangeL_eq,List.nil_append,List.map_nil]at g;have it:=rg_eq (i:=2*(m:Int)) (m:=2*m) (by omega) (by omega);generalize ((List.range' 0<|2*m).map<|rwk M w).map PyData.int=ae at g k;generalize rangeL 0 (2*m)=U at g it;generalize cell M 0=C0 at *;generalize cell M 1=C1 at *;generalize cell M 2=C2 at *;generalize cell M 3=C3 at *;generalize M.map PyData.int=ag at *;exact wkF [.c 0<|c0,.c 0<|hn,.c 0<|c1,.c 2<|c2,.v 0<|om,.c 0<|c3,.b 2<|q,.c 1<|c3,.b 1<|e,.l 2<|it,.lp 0<|g,.c 2<|k] rfl (by kernel_rfl)
theorem law_ok(n:Nat)(M:List Int) :cF P (n+19) 26 [.fz<|.list<|M.map .int]=okD (.bool true):=by obtain⟨l,f,a,b,c,hn,h⟩:=names_ok (n+17)<|cell M 0;cases q:decide (((cell M 3).fdiv 12).fmod 12=1) with
 | true=>
  have q:cmpD .eq (.int<|((cell M 3).fdiv 12).fmod 12) (.int 1)=some true:=congrArg some q;have b2:=fm_b (cell M 1) (show(0:Int)<2 by decide);by_cases e:(cell M 1).fmod 2=0
  .have e0:cmpD .eq (.int<|(cell M 1).fmod 2) (.int 0)=some true:=by rw[e];rfl
   have e1:cmpD .eq (.int<|(cell M 1).fmod 2) (.int 1)=some false:=by rw[e];rfl
   rcases hn with hn | hn
   .exact law_cF0 n M hn h q e0 e1
   .exact law_cF1 n M hn h q e0 e1
  .have e:(cell M 1).fmod 2=1:=by omega
   have e0:cmpD .eq (.int<|(cell M 1).fmod 2) (.int 0)=some false:=by rw[e];rfl
   have e1:cmpD .eq (.int<|(cell M 1).fmod 2) (.int 1)=some true:=by rw[e];rfl
   rcases hn with hn | hn
   .exact law_cT0 n M hn h q e0 e1
   .exact law_cT1 n M hn h q e0 e1
 | false=>have q:cmpD .eq (.int<|((cell M 3).fdiv 12).fmod 12) (.int 1)=some false:=congrArg some q;cases e:decide ((cell M 3).fmod 2=0) with
  | true=>
   have e:cmpD .eq (.int<|(cell M 3).fmod 2) (.int 0)=some true:=congrArg some e;rcases hn with hn | hn
   .exact law_p0 n M hn h q e
   .exact law_p1 n M hn h q e
  | false=>
   have e:cmpD .eq (.int<|(cell M 3).fmod 2) (.int 0)=some false:=congrArg some e;rcases hn with hn | hn
   .exact law_s0 n M hn h q e
   .exact law_s1 n M hn h q e
end
end Lq
end
set_option backward.match.sparseCases false
open PySem PySem.W PyProof.Rows Mv
set_option maxHeartbeats 8000000
namespace Lq
theorem defAt:(recsOf Hq.view)[26]?=some Hq.dk.1:=by kernel_rfl
theorem gSingles(P:Params) :glOf (Hq.K P) (Str.ofString "SINGLES")=some (.ref 138):=by kernel_rfl
theorem kSingles(P:Params) :∃o,(Hq.K P).lookup 138=some o∧o={cls:=.type "tuple",data:=.seq [Value.str ⟨[100,111,119,110].toArray⟩ 363,Value.str ⟨[102,105,114,115,116].toArray⟩ 364,Value.str ⟨[114,101,115,116].toArray⟩ 365,Value.str ⟨[101,109,112,116,121].toArray⟩ 366].toArray}:=⟨_,rfl,by kernel_rfl⟩
theorem gTame(P:Params) :glOf (Hq.K P) (Str.ofString "TAME")=some (.ref 188):=by kernel_rfl
theorem kTame(P:Params) :∃o,(Hq.K P).lookup 188=some o∧o={cls:=.type "tuple",data:=.seq [Value.str ⟨[102,105,114,115,116].toArray⟩ 424,Value.str ⟨[114,101,115,116].toArray⟩ 425,Value.str ⟨[100,111,119,110].toArray⟩ 426].toArray}:=⟨_,rfl,by kernel_rfl⟩
theorem vHeav:valOf Hq.view (Str.ofString "HEAVIEST")=some (.int 50):=by kernel_rfl
section
variable [Hp]{loose:ax}{mean:ExcName→Option Value}
theorem glsOk(KX:(Hq.K w.params).In B)(hgl:∀x,mg x=glOf (Hq.K w.params) x)(T:Top Hq.view loose mean mg mb B)(ae:LooseAre Hq.lv mg B) :∀(k:Nat)(x:Str)(d:D),gls[k]?=some x→P.glob[k]?=some d→ ∃v,mg x=some v∧ ∀(h':Heap)(Z:Addr→Prop),(∀a o,B.get? a=some o→h'.get? a=some o)→(∀a o,B.get? a=some o→Z a)→Rep h' Z v d:=by
 intro k x d hk hd'
 match k,hk,hd' with
 | 0,hk,hd'=>cases hk;cases hd';exact loose_int ae<|.head _
 | 1,hk,hd'=>cases hk;cases hd';exact const_int T vHeav
 | 2,hk,hd'=>cases hk;cases hd';refine⟨.ref 138,(hgl _).trans<|gSingles w.params,fun h' Z hk hz=>?_⟩;obtain⟨o,e,q⟩:=kSingles w.params;have e:=KX _ _ e;rw[q]at e;exact .tuple (hz _ _ e) (hk _ _ e) (by decide)<|(.cons (.str _ _ (by kernel_rfl) (by decide))<|.cons (.str _ _ (by kernel_rfl) (by decide))<|.cons (.str _ _ (by kernel_rfl) (by decide))<|.cons (.str _ _ (by kernel_rfl) (by decide)) .nil)
 | 3,hk,hd'=>cases hk;cases hd';refine⟨.ref 188,(hgl _).trans<|gTame w.params,fun h' Z hk hz=>?_⟩;obtain⟨o,e,q⟩:=kTame w.params;have e:=KX _ _ e;rw[q]at e;exact .tuple (hz _ _ e) (hk _ _ e) (by decide)<|(.cons (.str _ _ (by kernel_rfl) (by decide))<|.cons (.str _ _ (by kernel_rfl) (by decide))<|.cons (.str _ _ (by kernel_rfl) (by decide)) .nil)
end
end Lq
end
end Internal
open Internal PySem PySem.W PyProof.Rows Internal.Mv
set_option maxHeartbeats 8000000
set_option tactic.hygienic true in
theorem PySem.Challenge.cw_uf010005_09_holds : PySem.Challenge.rw_uf010005_09.Holds :=
 Hq.hd (by
 intro w s₀ s₁ mg mb G aa fa o pm cd doc dV kV ho hd hcd hD hmg hg args vals as hpre hlay hrd hwl hlo;have KX:=kIn_of aa;have ae:=(Ground.X G).2;refine Ground.open G ?_;intro T B D TE TW
 wrow_args hpre hlay hrd hwl hlo
 rename_i M hs hlay0 hL hr hl2 w4 w3 l vs w0 hL' ra w1 r0 hI hr' hc1 hc2;refine enter_call ?_;have hgl:=glOf_ok KX T.g<|Lq.kG w.params
 letI hp:Hp:=⟨w,s₁.heap,mg,mb⟩
 refine law_top (hp:=hp) (P:=Lq.P) (nss:=Lq.nss) (f:=26) (n:=19) (M:=M) rfl T TE Lq.chkM Lq.chkR Lq.chk Lq.chkBd Lq.chkF (owns_raise T PySem.F.excBase_ValueError Lq.chkC) (entH_ok KX hgl<|Lq.chkA w.params) (Lq.glsOk KX hgl T ae) (by decide) Lq.defAt hmg w1 ?_ (by decide) hg ?_ ?_<|Lq.law_ok 0 M
 .have:M.length≤63:=by exact(Ln [M.length] (.w .x<|.c 63) [Gi (.n .x)<|.n<|.c 63] rfl<|Int.not_lt.mp hc1)
  exact Nat.le_trans this (by decide)
 .intro cls;rfl
 .wrow_post)
