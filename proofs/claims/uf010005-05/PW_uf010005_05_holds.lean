import PyProof.Rows.All
import PyProof.Cells
import PyProof.ForAny
import PyProof.RaisesMany
import PyProof.NsDelKeeps
import PyProof.ExcClass3
import PyProof.ExcArgsOwn
import PyProof.ExcAttrAll.ValueError
import PyProof.DictDisplay
import PyProof.DictStraight
import PyProof.Rows.SetFrom
import OpenK.KWalk
import Open.Tree
import KE.KTryMore
import KE.KDictOf
import KE.KEqDict
import PyProof.AttrMissSeq
import PyProof.ZipIter
import PyProof.TupleIter
import PyProof.Rows.ZipGen
import PyProof.Rows.FactsT2
import Wide.FinOn
import PySem.Challenge.RW_uf010005_05
set_option maxRecDepth 100000
set_option linter.unusedVariables false
set_option linter.unusedSimpArgs false
set_option linter.unusedSectionVars false
set_option Elab.async false
set_option tactic.hygienic false
set_option genSizeOf false
set_option genInjectivity false
section
open PySem PySem.W
namespace Ht
section
variable {tb:String→Option Builtin} {p:Program} {w:World} {n₀:Nat} {ann:Option Value}
noncomputable def runT (tb:String→Option Builtin) (p:Program) (w:World) (n₀:Nat) (ann:Option Value) :Nat→SharedT→Thread→Option SharedT
  | 0,_,_=>none
  | n+1,s,t=>match through t with
    | true=>some s
    | false=>match stepOk n₀ ann t with
      | false=>none
      | true=>match stepT (denote tb) p w s t with
        | some (s',t')=>runT tb p w n₀ ann n s' t'
        | none=>none
theorem run_of:∀ {n:Nat} {s s':SharedT} {t:Thread},runT tb p w n₀ ann n s t=some s'→topRun tb p w n₀ ann n s.abs t=some s'.abs
  | 0,_,_,_,h=>by cases h
  | n+1,s,s',t,h=>by
    unfold runT at h
    unfold topRun
    cases he:through t with
    | true=>rw [he] at h; cases h; rfl
    | false=>
      rw [he] at h
      cases hk:stepOk n₀ ann t with
      | false=>rw [hk] at h; cases h
      | true=>
        rw [hk] at h
        cases hs:stepT (denote tb) p w s t with
        | none=>rw [hs] at h; cases h
        | some r=>obtain ⟨s₂,t₂⟩:=r; rw [hs] at h; rw [stepT_spec hs]; exact run_of h
noncomputable def load:List Obj→BT→Nat→Option BT
  | [],t,_=>some t
  | o::r,t,n=>match ((t.ins n o).get n).isSome with
    | true=>load r (t.ins n o) (n+1)
    | false=>none
theorem load_ok {life:Life} :∀ {l:List Obj} {t t':BT} {n:Nat},load l t n=some t'→absHeap t' (n+l.length) life=⟨((absHeap t n life).objs.toList++l).toArray,life⟩
  | [],t,t',n,h=>by cases h; rw [List.append_nil]; rfl
  | o::r,t,t',n,h=>by
    unfold load at h
    cases hg:((t.ins n o).get n).isSome with
    | false=>rw [hg] at h; cases h
    | true=>
      rw [hg] at h
      have:=load_ok (life:=life) h
      rw [absHeap_ins hg] at this
      rw [show n+(o::r).length=n+1+r.length by simp [Nat.add_comm,Nat.add_left_comm],this]
      congr 1
      show (((absHeap t n life).objs.push o).toList++r).toArray=_
      rw [Array.toList_push,List.append_assoc]; rfl
noncomputable def endsT (tb:String→Option Builtin) (p:Program) (w:World) (N:Nat) :Option Shared:=
  match fencedOpening tb p w N with
  | none=>none
  | some s₀=>match s₀.heap.isNs mainGlobals&&s₀.gens.size==0 with
    | false=>none
    | true=>match load s₀.heap.objs.toList .nil 0 with
      | none=>none
      | some t₀=>match runT tb p w s₀.heap.objs.size (s₀.heap.nsMap mainGlobals "__annotations__") N ⟨t₀,0 + s₀.heap.objs.toList.length,s₀.heap.life,s₀.gens,s₀.drawn,s₀.toks,s₀.os⟩ (topStub p) with
        | none=>none
        | some s=>match staticsOk (importedModules p.main.body) s₀.heap s.abs.heap&&namesBound p s.abs.heap&&gensDone s.abs&&laidKept s₀.heap s.abs.heap with
          | true=>some s.abs
          | false=>none
set_option tactic.hygienic true in
theorem ends_of {N:Nat} {s₁:Shared} (h:endsT tb p w N=some s₁) :openEnds tb p w N=some s₁:=by
  unfold endsT at h
  unfold openEnds
  cases hf:fencedOpening tb p w N with
  | none=>rw [hf] at h; cases h
  | some s₀=>
    rw [hf] at h
    show topFrom tb p w N s₀=some s₁
    unfold topFrom
    dsimp only at h
    cases hc:s₀.heap.isNs mainGlobals&&s₀.gens.size==0 with
    | false=>rw [hc] at h; cases h
    | true=>
      rw [hc] at h
      dsimp only at h ⊢
      cases hl:load s₀.heap.objs.toList .nil 0 with
      | none=>rw [hl] at h; cases h
      | some t₀=>
        rw [hl] at h
        dsimp only at h
        split at h
        · cases h
        · rename_i s hr
          have hr:=run_of hr
          have e:SharedT.abs ⟨t₀,0+s₀.heap.objs.toList.length,s₀.heap.life,s₀.gens,s₀.drawn,s₀.toks,s₀.os⟩=s₀:=by
            unfold SharedT.abs
            dsimp only
            rw [load_ok hl]
            rfl
          rw [e] at hr
          rw [hr]
          exact h
end
theorem leftT {p q:Program} {loose:List Str} {Xt:Shared→Bool} {α:Type} {Yf:Shared→α} {Ya:World→α} {N:Nat} {g0:Bool}
    (h:∀w,(endsT treeTable p w N).map (fun s=>(openSeen q loose (importedModules p.main.body) Xt g0 s,Yf s))=some (openGood q loose,Ya w)) :LeftO p q loose Xt Yf Ya N g0:=fun w=>by
  obtain ⟨s,e,e'⟩:=Option.map_eq_some_iff.mp (h w)
  rw [ends_of e]
  exact congrArg some e'
end Ht
end
section
open PySem PySem.W PyProof.Rows
set_option maxHeartbeats 8000000
namespace Hq
abbrev row:=PySem.Challenge.rw_uf010005_05.row
abbrev p:Program:=RowW.prog (OpenRow.toRowW row)
noncomputable def view:Program:= {p with main:= {p.main with body:=[1,2,3,4,6,7,8,9,10,11,12,13,14,15,17,18,19,20,22,23,24,25,26,27,28,30,31,32,33,34,36,37,38,39,40,41,42,43,44,45,46,47,48,49,50,51,52,53,54,55,56,57].filterMap fun i=>p.main.body[i]?}}
noncomputable def loose:List Str:=[Str.ofString "GREAT"]
noncomputable def lv:List (Str × WData):=[(Str.ofString "GREAT",WData.int 1000000000000000000)]
noncomputable def kS (s:String) (a:Nat) :Value:=.str (Str.ofString s) a
noncomputable def kE (P:Params) (s:String) (a:Nat) (v:Value) :DictEntry:= {hash:=PyData.keyHash P (Str.ofString s),key:=kS s a,val:=v}
noncomputable def K:Params→Frag:=fun P=>[
(3, {cls:=Value.type "dict",data:=Data.dict #[kE P "__name__" 165 (kS "law_uf010005_05" 598),kE P "__doc__" 166 Value.none,kE P "__package__" 167 Value.none,kE P "__loader__" 168 (Value.builtin "__main__.__loader__#opaque"),kE P "__spec__" 169 Value.none,kE P "__annotations__" 170 (.ref 6),kE P "__builtins__" 171 (.ref 4),kE P "__file__" 173 (kS "/claim/cut.py" 172),kE P "__cached__" 174 Value.none,kE P "TAME" 192 (.ref 15),kE P "calls_in" 202 (.ref 22),kE P "is_tame" 210 (.ref 29),kE P "keeps" 216 (.ref 34),kE P "HalfError" 236 (.ref 44),kE P "NoNumber" 252 (.ref 57),kE P "NoList" 268 (.ref 69),kE P "NoFirst" 284 (.ref 81),kE P "NoDown" 300 (.ref 93),kE P "ByNought" 316 (.ref 105),kE P "TooGreat" 332 (.ref 117),kE P "TooLong" 348 (.ref 129),kE P "NotKept" 364 (.ref 141),kE P "NoText" 380 (.ref 153),kE P "GREAT" 386 (Value.int 1000000000000000000 385),kE P "HEAVIEST" 388 (Value.int 50 387),kE P "room_left" 399 (.ref 162),kE P "is_value" 406 (.ref 169),kE P "SINGLES" 413 (.ref 170),kE P "fitting" 420 (.ref 177),kE P "number_done" 429 (.ref 184),kE P "down" 436 (.ref 191),kE P "list_done" 444 (.ref 198),kE P "joined" 452 (.ref 205),kE P "done" 460 (.ref 212),kE P "worked_out" 471 (.ref 219),kE P "Making" 565 (.ref 274),kE P "worked" 579 (.ref 285),kE P "left_over" 588 (.ref 292),kE P "cases" 597 (.ref 299),kE P "_law_cell_at" 607 (.ref 306),kE P "_law_next" 615 (.ref 313),kE P "_law_value" 621 (.ref 318),kE P "_law_names" 627 (.ref 323),kE P "_law_few" 636 (.ref 330),kE P "_law_tame" 649 (.ref 337),kE P "_law_parts" 663 (.ref 344),kE P "_law_call" 678 (.ref 351),kE P "_law_do" 691 (.ref 358),kE P "_law_form" 704 (.ref 365),kE P "_law_heads" 710 (.ref 370),kE P "_law_program" 716 (.ref 375),kE P "_law_inputs" 727 (.ref 382),kE P "_law_sorting" 733 (.ref 387),kE P "_law_is_tame" 741 (.ref 394),kE P "_law_kept" 752 (.ref 401),kE P "_law_due" 758 (.ref 406),kE P "_law_refused" 770 (.ref 413),kE P "_law_argument" 783 (.ref 420),kE P "_law_more" 789 (.ref 425),kE P "_law_each_sure" 800 (.ref 432),kE P "law" 806 (.ref 437)] 61}),
  (15, {cls:=Value.type "tuple",data:=Data.seq #[kS "first" 189,kS "rest" 190,kS "down" 191]}),
  (43, {cls:=Value.type "dict",data:=Data.dict #[kE P "__module__" 226 (kS "halfrun.errors" 217),kE P "__firstlineno__" 230 (Value.int 31 229),kE P "__static_attributes__" 231 (.ref 42),kE P "__weakref__" 233 (.ref 45),kE P "__doc__" 234 Value.none] 3}),
  (44, {cls:=Value.type "type",data:=Data.cls {name:=Str.ofString "HalfError",bases:=[Value.type "ValueError"],mro:=[Value.ref 44,Value.type "ValueError",Value.type "Exception",Value.type "BaseException",Value.type "object"],ns:=43,qualname:=Str.ofString "HalfError",subclasses:=[Value.ref 57,Value.ref 69,Value.ref 81,Value.ref 93,Value.ref 105,Value.ref 117,Value.ref 129,Value.ref 141,Value.ref 153]},slots:=#[some (Value.ref 35),none,some (kS "HalfError" 219),some (kS "HalfError" 227),some (Value.builtin "ValueError.__new__"),some (Value.bool true)]}),
  (56, {cls:=Value.type "dict",data:=Data.dict #[kE P "__module__" 244 (kS "halfrun.errors" 217),kE P "__firstlineno__" 248 (Value.int 33 247),kE P "__static_attributes__" 249 (.ref 55),kE P "__doc__" 250 Value.none] 2}),
  (57, {cls:=Value.type "type",data:=Data.cls {name:=Str.ofString "NoNumber",bases:=[Value.ref 44],mro:=[Value.ref 57,Value.ref 44,Value.type "ValueError",Value.type "Exception",Value.type "BaseException",Value.type "object"],ns:=56,qualname:=Str.ofString "NoNumber"},slots:=#[some (Value.ref 48),none,some (kS "NoNumber" 237),some (kS "NoNumber" 245),some (Value.builtin "ValueError.__new__"),some (Value.bool true)]}),
  (68, {cls:=Value.type "dict",data:=Data.dict #[kE P "__module__" 260 (kS "halfrun.errors" 217),kE P "__firstlineno__" 264 (Value.int 35 263),kE P "__static_attributes__" 265 (.ref 67),kE P "__doc__" 266 Value.none] 2}),
  (69, {cls:=Value.type "type",data:=Data.cls {name:=Str.ofString "NoList",bases:=[Value.ref 44],mro:=[Value.ref 69,Value.ref 44,Value.type "ValueError",Value.type "Exception",Value.type "BaseException",Value.type "object"],ns:=68,qualname:=Str.ofString "NoList"},slots:=#[some (Value.ref 60),none,some (kS "NoList" 253),some (kS "NoList" 261),some (Value.builtin "ValueError.__new__"),some (Value.bool true)]}),
  (80, {cls:=Value.type "dict",data:=Data.dict #[kE P "__module__" 276 (kS "halfrun.errors" 217),kE P "__firstlineno__" 280 (Value.int 37 279),kE P "__static_attributes__" 281 (.ref 79),kE P "__doc__" 282 Value.none] 2}),
  (81, {cls:=Value.type "type",data:=Data.cls {name:=Str.ofString "NoFirst",bases:=[Value.ref 44],mro:=[Value.ref 81,Value.ref 44,Value.type "ValueError",Value.type "Exception",Value.type "BaseException",Value.type "object"],ns:=80,qualname:=Str.ofString "NoFirst"},slots:=#[some (Value.ref 72),none,some (kS "NoFirst" 269),some (kS "NoFirst" 277),some (Value.builtin "ValueError.__new__"),some (Value.bool true)]}),
  (92, {cls:=Value.type "dict",data:=Data.dict #[kE P "__module__" 292 (kS "halfrun.errors" 217),kE P "__firstlineno__" 296 (Value.int 39 295),kE P "__static_attributes__" 297 (.ref 91),kE P "__doc__" 298 Value.none] 2}),
  (93, {cls:=Value.type "type",data:=Data.cls {name:=Str.ofString "NoDown",bases:=[Value.ref 44],mro:=[Value.ref 93,Value.ref 44,Value.type "ValueError",Value.type "Exception",Value.type "BaseException",Value.type "object"],ns:=92,qualname:=Str.ofString "NoDown"},slots:=#[some (Value.ref 84),none,some (kS "NoDown" 285),some (kS "NoDown" 293),some (Value.builtin "ValueError.__new__"),some (Value.bool true)]}),
  (104, {cls:=Value.type "dict",data:=Data.dict #[kE P "__module__" 308 (kS "halfrun.errors" 217),kE P "__firstlineno__" 312 (Value.int 41 311),kE P "__static_attributes__" 313 (.ref 103),kE P "__doc__" 314 Value.none] 2}),
  (105, {cls:=Value.type "type",data:=Data.cls {name:=Str.ofString "ByNought",bases:=[Value.ref 44],mro:=[Value.ref 105,Value.ref 44,Value.type "ValueError",Value.type "Exception",Value.type "BaseException",Value.type "object"],ns:=104,qualname:=Str.ofString "ByNought"},slots:=#[some (Value.ref 96),none,some (kS "ByNought" 301),some (kS "ByNought" 309),some (Value.builtin "ValueError.__new__"),some (Value.bool true)]}),
  (116, {cls:=Value.type "dict",data:=Data.dict #[kE P "__module__" 324 (kS "halfrun.errors" 217),kE P "__firstlineno__" 328 (Value.int 43 327),kE P "__static_attributes__" 329 (.ref 115),kE P "__doc__" 330 Value.none] 2}),
  (117, {cls:=Value.type "type",data:=Data.cls {name:=Str.ofString "TooGreat",bases:=[Value.ref 44],mro:=[Value.ref 117,Value.ref 44,Value.type "ValueError",Value.type "Exception",Value.type "BaseException",Value.type "object"],ns:=116,qualname:=Str.ofString "TooGreat"},slots:=#[some (Value.ref 108),none,some (kS "TooGreat" 317),some (kS "TooGreat" 325),some (Value.builtin "ValueError.__new__"),some (Value.bool true)]}),
  (128, {cls:=Value.type "dict",data:=Data.dict #[kE P "__module__" 340 (kS "halfrun.errors" 217),kE P "__firstlineno__" 344 (Value.int 45 343),kE P "__static_attributes__" 345 (.ref 127),kE P "__doc__" 346 Value.none] 2}),
  (129, {cls:=Value.type "type",data:=Data.cls {name:=Str.ofString "TooLong",bases:=[Value.ref 44],mro:=[Value.ref 129,Value.ref 44,Value.type "ValueError",Value.type "Exception",Value.type "BaseException",Value.type "object"],ns:=128,qualname:=Str.ofString "TooLong"},slots:=#[some (Value.ref 120),none,some (kS "TooLong" 333),some (kS "TooLong" 341),some (Value.builtin "ValueError.__new__"),some (Value.bool true)]}),
  (140, {cls:=Value.type "dict",data:=Data.dict #[kE P "__module__" 356 (kS "halfrun.errors" 217),kE P "__firstlineno__" 360 (Value.int 47 359),kE P "__static_attributes__" 361 (.ref 139),kE P "__doc__" 362 Value.none] 2}),
  (141, {cls:=Value.type "type",data:=Data.cls {name:=Str.ofString "NotKept",bases:=[Value.ref 44],mro:=[Value.ref 141,Value.ref 44,Value.type "ValueError",Value.type "Exception",Value.type "BaseException",Value.type "object"],ns:=140,qualname:=Str.ofString "NotKept"},slots:=#[some (Value.ref 132),none,some (kS "NotKept" 349),some (kS "NotKept" 357),some (Value.builtin "ValueError.__new__"),some (Value.bool true)]}),
  (152, {cls:=Value.type "dict",data:=Data.dict #[kE P "__module__" 372 (kS "halfrun.errors" 217),kE P "__firstlineno__" 376 (Value.int 49 375),kE P "__static_attributes__" 377 (.ref 151),kE P "__doc__" 378 Value.none] 2}),
  (153, {cls:=Value.type "type",data:=Data.cls {name:=Str.ofString "NoText",bases:=[Value.ref 44],mro:=[Value.ref 153,Value.ref 44,Value.type "ValueError",Value.type "Exception",Value.type "BaseException",Value.type "object"],ns:=152,qualname:=Str.ofString "NoText"},slots:=#[some (Value.ref 144),none,some (kS "NoText" 365),some (kS "NoText" 373),some (Value.builtin "ValueError.__new__"),some (Value.bool true)]}),
  (170, {cls:=Value.type "tuple",data:=Data.seq #[kS "down" 409,kS "first" 410,kS "rest" 411,kS "empty" 412]})]
noncomputable def K_as:List Addr:=[3,15,43,44,56,57,68,69,80,81,92,93,104,105,116,117,128,129,140,141,152,153,170]
theorem K_eq:∀P,K_as=(K P).map (·.1):=fun J=>by kernel_rfl
noncomputable abbrev H:Hook:=kHook K K_as K_eq
theorem left:LeftO p view loose (fun s=>xlAt view lv s&&recOk (RowW.records (OpenRow.toRowW row)) s) (Hook.obs H) (Hook.val H) 6000:=Ht.leftT fun w=>by kernel_rfl
theorem said:PySem.Challenge.rw_uf010005_05.wellSaid=true:=by kernel_rfl
end Hq
end
section
open PySem PySem.W PyProof.Rows
set_option maxHeartbeats 8000000
namespace Hq
theorem isd:(defOf view (OpenRow.toRowW row).name).isSome=true:=by kernel_rfl
noncomputable abbrev dk:DefRec×List (Str×Expr):=(defOf view (OpenRow.toRowW row).name).get isd
theorem hdef:defOf view row.name=some (dk.1,dk.2):=(Option.some_get isd).symm
theorem hp:row.prog.theDef row.name=some (dk.1.params,dk.1.body,dk.1.scope):=by kernel_rfl
theorem hk:kwWritten? dk.1.params.kwonlyargs dk.1.params.kw_defaults=some dk.2:=by kernel_rfl
theorem hok:(chainsOk view&&opensWell row.prog&&(frees row.toRowW&&row.within.isEmpty))=true:=by kernel_rfl
theorem hbare:row.prog.bare:=⟨rfl,rfl,rfl,rfl,rfl,by decide +kernel⟩
theorem hw:row.toRowW.promised:=by w_witness2
theorem hwr:(!row.writes||row.records.isEmpty)=true:=by kernel_rfl
theorem hd (call:WalkO view loose (XL view lv) (Hook.says H) row.toRowW dk.1 dk.2 fun f vs=>PySem.call f vs) :PySem.Challenge.rw_uf010005_05.Holds:=
  holds_law said fun k1=>holds_open (q:=view) (loose:=loose) (Xt:=fun s=>xlAt view lv s&&recOk (RowW.records (OpenRow.toRowW row)) s) (XP:=XL view lv) (Yf:=Hook.obs H) (Ya:=Hook.val H) (YP:=Hook.says H) (N:=6000)
    left (Hook.of H) (Hook.keeps H) (fun s e=>xl_of s (Bool.and_eq_true_iff.mp e).1) XL.keeps hdef hp hk (fun s e=>recFacts_of (Bool.and_eq_true_iff.mp e).2) hwr k1 hok hbare hw call
end Hq
end
section
namespace Mv
open PySem
noncomputable abbrev D:=PyData
noncomputable abbrev Sz:Nat:=16777216
inductive Slot where | no | fz (d:D) | own (d:D) | exc (c:Str)
inductive Pl where | var (i:Nat)
inductive Rv where | fz (d:D) | own (d:D) | pl (p:Pl)
noncomputable abbrev Fm:=List Slot
noncomputable abbrev Out (α:Type):=Option (Except Str α×Fm)
class Kt (α β:Type) where
  run:α→Fm→Out β
noncomputable def bnd {α β:Type} (m:Out α) [k:Kt α β] :Out β:=
  match m with
  | none=>none
  | some (.error e,fr)=>some (.error e,fr)
  | some (.ok a,fr)=>k.run a fr
noncomputable abbrev bndK {α β:Type} (m:Out α) (k:α→Fm→Out β) :Out β:=@bnd α β m ⟨k⟩
theorem bnd_ok {α β:Type} (a:α) (fr:Fm) (k:α→Fm→Out β) : @bnd α β (some (.ok a,fr)) ⟨k⟩=k a fr:=by rfl
theorem bnd_err {α β:Type} (e:Str) (fr:Fm) (k:Kt α β) : @bnd α β (some (.error e,fr)) k=some (.error e,fr):=rfl
noncomputable def bndN {α β:Type} (m:Out α) [k:Kt α β] :Out β:=
  match m with
  | none=>none
  | some (.error _,_)=>none
  | some (.ok a,fr)=>k.run a fr
noncomputable abbrev bndNK {α β:Type} (m:Out α) (k:α→Fm→Out β) :Out β:=@bndN α β m ⟨k⟩
inductive Op2 where | add | sub | mul | fdiv | mod | pow
inductive Cm where | eq | ne | lt | gt | isin | ned
inductive Ty where | bool
inductive Bi where
  | len | isi (t:Ty) | sum | all | abs | int | tuple | list
  | count | dict0 | dict | disp (ks:List Str)
inductive Itk where | seq | range | zip
inductive Tgt where | one (i:Nat) | tup (is:List Nat)
inductive Ex where
  | lit (d:D)
  | gl (k:Nat)
  | var (i:Nat)
  | pl (p:Pl)
  | tup (es:List Ex)
  | list (es:List Ex)
  | op2 (o:Op2) (a b:Ex)
  | neg (a:Ex)
  | not (a:Ex)
  | cmp (o:Cm) (a b:Ex)
  | and (es:List Ex)
  | or (es:List Ex)
  | idx (a i:Ex)
  | slc (a lo hi:Ex)
  | call (f:Nat) (args:List Ex)
  | bi (b:Bi) (args:List Ex)
  | comp (elt:Ex) (t:Tgt) (it:Itk) (src:List Ex) (conds:List Ex)
  | isx (i:Nat) (yes no:List Str)
inductive St where
  | asg (t:Tgt) (e:Ex)
  | setI (p:Pl) (i e:Ex)
  | app (p:Pl) (e:Ex)
  | exp (e:Ex)
  | iff (c:Ex) (a b:List St)
  | ret (e:Ex)
  | for_ (t:Tgt) (it:Itk) (src:List Ex) (body:List St) (tmp:List Nat)
  | raise (c:Str)
  | try_ (body:List St) (yes:List Str) (v:Nat) (hand:List St)
  | no
inductive Ctl where | next | ret (r:Rv)
noncomputable def mulOk (a b:Int) :Bool:=decide (a.natAbs<2 ^ 64)||decide (b.natAbs<2 ^ 64)
noncomputable def mulI (a b:Int) :Option Rv:=if mulOk a b=true then some (.fz (.int (a*b))) else none
noncomputable def rep (n:Int) (xs:List α) :List α:=(List.replicate n.toNat xs).flatten
noncomputable def op2:Op2→D→D→Option Rv
  | .add,.int a,.int b=>some (.fz (.int (a+b)))
  | .add,.str a,.str b=>if a.cps.size+b.cps.size≤Sz then some (.fz (.str ⟨a.cps++b.cps⟩)) else none
  | .add,.tuple a,.tuple b=>if a.length+b.length≤Sz then some (.fz (.tuple (a++b))) else none
  | .add,.list a,.list b=>if a.length+b.length≤Sz then some (.own (.list (a++b))) else none
  | .sub,.int a,.int b=>some (.fz (.int (a - b)))
  | .mul,.int a,.int b=>mulI a b
  | .mul,.str a,.int n=>if -1000000000≤n∧n≤1000000000∧a.cps.size*n.toNat≤Sz then some (.fz (.str ⟨(rep n a.cps.toList).toArray⟩)) else none
  | .fdiv,.int a,.int b=>if b≠0∧b.natAbs<2 ^ 64 then some (.fz (.int (a.fdiv b))) else none
  | .mod,.int a,.int b=>if b=0 then none else some (.fz (.int (a.fmod b)))
  | .pow,.int a,.int n=>if 0≤n∧n≤1000∧a.natAbs<2 ^ 64 then some (.fz (.int (a ^ n.toNat))) else none
  | _,_,_=>none
mutual
noncomputable def noDict:D→Bool
  | .none | .bool _ | .int _ | .str _=>true
  | .list xs | .tuple xs=>noDicts xs
  | .dict _=>false
noncomputable def noDicts:List D→Bool
  | []=>true
  | x::xs=>noDict x&&noDicts xs
end
noncomputable def eqOk (a b:D) :Bool:=noDict a&&noDict b&&decide (min a.depth b.depth≤64)
noncomputable def eqD:D→D→Option Bool
  | .int a,.int b=>some (a==b)
  | .str a,.str b=>some (a.cps.toList==b.cps.toList)
  | .bool a,.bool b=>some (a==b)
  | a,b=>if eqOk a b then some (PyData.eqv a b) else none
noncomputable def anyEq (x:D) :List D→Option Bool
  | []=>some false
  | y::ys=>match eqD y x with
    | none=>none
    | some b=>match anyEq x ys with
      | none=>none
      | some c=>some (b||c)
noncomputable def dgetL:List (D×D)→Str→Option D
  | (.str k,d)::r,x=>if k=x then some d else dgetL r x
  | _::r,x=>dgetL r x
  | [],_=>none
noncomputable def dmapL:List (D×D)→Str→D→List (D×D)
  | (.str k,d)::r,x,e=>(.str k,if k=x then e else d)::dmapL r x e
  | p::r,x,e=>p::dmapL r x e
  | [],_,_=>[]
noncomputable def dsetL (l:List (D×D)) (x:Str) (e:D) :List (D×D):=if (dgetL l x).isSome then dmapL l x e else l++[(.str x,e)]
noncomputable def boolsOf:List D→Option (List Bool)
  | []=>some []
  | .bool x::r=>(boolsOf r).map (x :: ·)
  | _::_=>none
noncomputable def distinct:List Str→Nat
  | []=>0
  | x::r=>if r.contains x then distinct r else distinct r+1
noncomputable def dofL:List (D×D)→List D→Option (List (D×D))
  | acc,[]=>some acc
  | acc,.tuple [.str k,v]::r=>dofL (dsetL acc k v) r
  | _,_::_=>none
noncomputable def zipS:List Str→List D→List (D×D)
  | k::ks,d::ds=>(.str k,d)::zipS ks ds
  | _,_=>[]
noncomputable def dhits (b:List (D×D)) :List (D×D)→Option Bool
  | []=>some true
  | (.str k,v)::r=>match dgetL b k with
    | none=>some false
    | some y=>match eqD v y,dhits b r with
      | some e,some t=>some (e&&t)
      | _,_=>none
  | _::_=>none
noncomputable def deqD:D→D→Option Bool
  | .dict a,.dict b=>if a.length=b.length then dhits b a else some false
  | _,_=>none
noncomputable def inD (x:D) :D→Option Bool
  | .list xs=>if noDict x then anyEq x xs else none
  | .tuple xs=>if noDict x then anyEq x xs else none
  | .str s=>match x with
    | .str t=>(match t.cps.toList with
      | [c]=>some (s.cps.toList.contains c)
      | _=>none)
    | _=>none
  | .dict kvs=>match x with
    | .str t=>some (dgetL kvs t).isSome
    | _=>none
  | _=>none
noncomputable def ltD:D→D→Option Bool
  | .int a,.int b=>some (decide (a<b))
  | _,_=>none
noncomputable def cmpD (o:Cm) (a b:D) :Option Bool:=match o with
  | .eq=>eqD a b
  | .ne=>(eqD a b).map (!·)
  | .lt=>ltD a b
  | .gt=>ltD b a
  | .isin=>inD a b
  | .ned=>(deqD a b).map (!·)
noncomputable def tD:D→Bool
  | .none=>false
  | .bool b=>b
  | .int i=>i != 0
  | .str s=>s.cps.size != 0
  | .list xs=>!xs.isEmpty
  | .tuple xs=>!xs.isEmpty
  | .dict kvs=>!kvs.isEmpty
noncomputable def negD:D→Option D
  | .int a=>some (.int (-a))
  | _=>none
noncomputable def idxOf (xs:List α) (i:Int) :Option α:=if 0≤i then xs[i.toNat]? else if 0≤i+xs.length then xs[(i+xs.length).toNat]? else none
noncomputable def idxD:D→D→Option D
  | .list xs,.int i=>idxOf xs i
  | .tuple xs,.int i=>idxOf xs i
  | .str s,.int i=>(idxOf s.cps.toList i).map fun c=>.str ⟨#[c]⟩
  | .dict kvs,.str k=>dgetL kvs k
  | _,_=>none
noncomputable def clampI (n:Nat) (i:Int) :Nat:=clipAt n i
noncomputable def loOf (n:Nat) :D→Option Nat
  | .none=>some 0
  | .int i=>some (clampI n i)
  | _=>none
noncomputable def hiOf (n:Nat) :D→Option Nat
  | .none=>some n
  | .int i=>some (clampI n i)
  | _=>none
noncomputable def cutL (xs:List α) (lo hi:Nat) :List α:=(xs.drop lo).take (hi - lo)
noncomputable def slcD (a lo hi:D) :Option Rv:=match a with
  | .list xs=>match loOf xs.length lo,hiOf xs.length hi with
    | some l,some h=>some (.own (.list (cutL xs l h)))
    | _,_=>none
  | .tuple xs=>match loOf xs.length lo,hiOf xs.length hi with
    | some l,some h=>some (.fz (.tuple (cutL xs l h)))
    | _,_=>none
  | _=>none
noncomputable def isiD:Ty→D→Bool
  | .bool,.bool _=>true
  | _,_=>false
noncomputable def Bi.loops:Bi→Bool
  | .dict=>true
  | _=>false
noncomputable def lenD:D→Option Nat
  | .list xs=>some xs.length
  | .tuple xs=>some xs.length
  | .str s=>some s.cps.size
  | _=>none
noncomputable def biD:Bi→List D→Option Rv
  | .len,[a]=>(lenD a).map fun (n:Nat)=>.fz (.int n)
  | .isi t,[a]=>some (.fz (.bool (isiD t a)))
  | .int,[.bool b]=>some (.fz (.int (if b then 1 else 0)))
  | .tuple,[.list xs]=>some (.fz (.tuple xs))
  | .tuple,[.tuple xs]=>some (.fz (.tuple xs))
  | .list,[.list xs]=>some (.own (.list xs))
  | .list,[.tuple xs]=>some (.own (.list xs))
  | .count,[.list xs,.bool b]=>(boolsOf xs).map fun bs=>.fz (.int (bs.count b:Nat))
  | .dict,[.list xs]=>if xs.length≤1000 then (dofL [] xs).map fun kvs=>.own (.dict kvs) else none
  | .dict,[.dict kvs]=>if kvs.length≤1000 then some (.own (.dict kvs)) else none
  | .disp ks,ds=>if ks.length=ds.length then some (.own (.dict (zipS ks ds))) else none
  | _,_=>none
noncomputable def rangeL (a:Int) (n:Nat) :List D:=(List.range n).map fun (k:Nat)=>.int (a+k)
noncomputable def zipL:List D→List D→List D
  | x::xs,z::zs=>.tuple [x,z]::zipL xs zs
  | _,_=>[]
noncomputable def iterD:Itk→List D→Option (List D)
  | .seq,[.list xs]=>some xs
  | .seq,[.tuple xs]=>some xs
  | .seq,[.str s]=>some (s.cps.toList.map fun c=>.str ⟨#[c]⟩)
  | .range,[.int n]=>if -1000000000≤n∧n≤Sz then some (rangeL 0 n.toNat) else none
  | .zip,[.tuple xs,.tuple zs]=>some (zipL xs zs)
  | _,_=>none
noncomputable def plGet (fr:Fm) :Pl→Option D
  | .var i=>match fr[i]? with
    | some (.fz d)=>some d
    | some (.own d)=>some d
    | _=>none
noncomputable def Slot.live:Slot→Bool
  | .no=>false
  | _=>true
noncomputable def plLive (fr:Fm) :Pl→Bool
  | .var i=>match fr[i]? with
    | some sl=>sl.live
    | none=>false
noncomputable def plOwn (fr:Fm) :Pl→Option D
  | .var i=>match fr[i]? with
    | some (.own d)=>some d
    | _=>none
noncomputable def plSet (fr:Fm) (p:Pl) (d:D) :Fm:=match p with
  | .var i=>fr.set i (.own d)
noncomputable def rvD (fr:Fm) :Rv→Option D
  | .fz d=>some d
  | .own d=>some d
  | .pl p=>plGet fr p
noncomputable def rvV:Rv→Option D
  | .fz d=>some d
  | .own d=>some d
  | .pl _=>none
noncomputable def rvDs (fr:Fm) :List Rv→Option (List D)
  | []=>some []
  | r::rs=>match rvD fr r,rvDs fr rs with
    | some d,some ds=>some (d::ds)
    | _,_=>none
noncomputable def rvVs:List Rv→Option (List D)
  | []=>some []
  | r::rs=>match rvV r,rvVs rs with
    | some d,some ds=>some (d::ds)
    | _,_=>none
noncomputable def clr (fr:Fm) :List Nat→Fm
  | []=>fr
  | i::is=>clr (fr.set i .no) is
noncomputable def asgs (pin:List Nat) (fr:Fm) :List Nat→List D→Option Fm
  | [],[]=>some fr
  | i::is,d::ds=>if pin.contains i then none else asgs pin (fr.set i (.fz d)) is ds
  | _,_=>none
noncomputable def asgT (pin:List Nat) (fr:Fm) (t:Tgt) (r:Rv) :Option Fm:=match t with
  | .one i=>if pin.contains i then none else match r with
    | .fz d=>some (fr.set i (.fz d))
    | .own d=>some (fr.set i (.own d))
    | .pl _=>none
  | .tup is=>match rvV r with
    | some (.tuple ds)=>asgs pin fr is ds
    | _=>none
noncomputable def tgtVars:Tgt→List Nat
  | .one i=>[i]
  | .tup is=>is
noncomputable def argSlots (fr:Fm) :List Rv→Option (List Slot)
  | []=>some []
  | r::rs=>match (match r with
      | .fz d=>some (Slot.fz d)
      | .own d=>some (.fz d)
      | .pl (.var i)=>(match fr[i]? with
        | some (.fz d)=>some (.fz d)
        | some (.own d)=>some (.own d)
        | some (.exc c)=>some (.exc c)
        | _=>none)),argSlots fr rs with
    | some s,some ss=>some (s::ss)
    | _,_=>none
noncomputable def Slot.lent:Slot→Bool
  | .fz _=>false
  | .no=>false
  | .exc _=>false
  | _=>true
noncomputable def roots:List Rv→List Nat
  | []=>[]
  | .pl (.var i)::rs=>i::roots rs
  | _::rs=>roots rs
noncomputable def copyOut (fr:Fm) :List Rv→List Slot→List Slot→Fm
  | r::rs,s::ss,outs=>if s.lent then (match outs with
      | o::os=>(match r with
        | .pl (.var i)=>copyOut (fr.set i o) rs ss os
        | _=>copyOut fr rs ss os)
      | []=>fr) else copyOut fr rs ss outs
  | _,_,_=>fr
noncomputable def outsOf:List Slot→Fm→List Slot
  | [],_=>[]
  | s::ss,fr=>if s.lent then fr.headD .no::outsOf ss fr.tail else outsOf ss fr.tail
noncomputable def pinsOf:Nat→List Slot→List Nat
  | _,[]=>[]
  | k,s::ss=>if s.lent then k::pinsOf (k+1) ss else pinsOf (k+1) ss
structure Cfg where
  glob:List D
  call:Bool→Nat→List Slot→Option (Except Str Rv×List Slot)
  pin:List Nat
  hd:Bool
noncomputable def compL [f:Kt D (Option D)] (cl:List Nat) :List D→Fm→Out (List D)
  | [],fr=>some (.ok [],clr fr cl)
  | d::ds,fr=>bndK (f.run d (clr fr cl)) fun r fr=>bndK (compL (f:=f) cl ds fr) fun rs fr=>match r with
    | none=>some (.ok rs,fr)
    | some x=>some (.ok (x::rs),fr)
noncomputable def forL [f:Kt D Ctl] (cl:List Nat) :List D→Fm→Out Ctl
  | [],fr=>some (.ok .next,clr fr cl)
  | d::ds,fr=>bndNK (f.run d (clr fr cl)) fun c fr=>match c with
    | .next=>forL (f:=f) cl ds fr
    | .ret r=>some (.ok (.ret r),fr)
noncomputable def whL [t:Kt Unit Bool] [f:Kt Unit Ctl] (cl:List Nat) :Nat→Fm→Out Ctl
  | 0,_=>none
  | n+1,fr=>bndNK (t.run () (clr fr cl)) fun b fr=>match b with
    | true=>bndNK (f.run () fr) fun c fr=>match c with
      | .next=>whL (t:=t) (f:=f) cl n fr
      | .ret r=>some (.ok (.ret r),fr)
    | false=>some (.ok .next,fr)
noncomputable def okO {α:Type} (fr:Fm) :Option α→Out α
  | none=>none
  | some a=>some (.ok a,fr)
noncomputable def callO (c:Cfg) (f:Nat) (rs:List Rv) (fr:Fm) :Out Rv:=
  match argSlots fr rs with
  | none=>none
  | some ss=>if (roots rs).Nodup then match c.call c.hd f ss with
      | none=>none
      | some (.error e,outs)=>some (.error e,copyOut fr rs ss outs)
      | some (.ok r,outs)=>(match rvV r with
        | none=>none
        | some _=>some (.ok r,copyOut fr rs ss outs))
    else none
noncomputable def okV (fr:Fm) :Option Rv→Out Rv
  | none=>none
  | some (.fz d)=>some (.ok (.fz d),fr)
  | some (.own d)=>some (.ok (.own d),fr)
  | some (.pl _)=>none
theorem nos {α:Type} {r:α} {p:Prop} (h:none=some r) :p:=nomatch h
theorem sos {α:Type} {a r:α} (h:some a=some r) :a=r:=Option.some.inj h
theorem ifs {α:Type} {c:Prop} [Decidable c] {a r:α} (h:(if c then some a else none)=some r) :c∧a=r:=by
  by_cases q:c
  · rw [if_pos q] at h; exact ⟨q,sos h⟩
  · rw [if_neg q] at h; exact nos h
theorem ifn {α:Type} {c:Prop} [Decidable c] {a r:α} (h:(if c then none else some a)=some r) :¬c∧a=r:=by
  by_cases q:c
  · rw [if_pos q] at h; exact nos h
  · rw [if_neg q] at h; exact ⟨q,sos h⟩
mutual
noncomputable def ev (c:Cfg) :Ex→Fm→Out Rv
  | .lit d,fr=>some (.ok (.fz d),fr)
  | .gl k,fr=>match c.glob[k]? with
    | some d=>some (.ok (.fz d),fr)
    | none=>none
  | .var i,fr=>match fr[i]? with
    | some (.fz d)=>some (.ok (.fz d),fr)
    | some (.own d)=>some (.ok (.fz d),fr.set i (.fz d))
    | _=>none
  | .pl p,fr=>if plLive fr p then some (.ok (.pl p),fr) else none
  | .tup es,fr=>bndK (evs c es fr) fun rs fr=>okO fr ((rvVs rs).map fun ds=>.fz (.tuple ds))
  | .list es,fr=>bndK (evs c es fr) fun rs fr=>okO fr ((rvVs rs).map fun ds=>.own (.list ds))
  | .op2 o a b,fr=>bndK (ev c a fr) fun x fr=>bndK (ev c b fr) fun y fr=>match rvD fr x,rvD fr y with
    | some d,some e=>okV fr (op2 o d e)
    | _,_=>none
  | .neg a,fr=>bndK (ev c a fr) fun x fr=>match rvV x with
    | some d=>okO fr ((negD d).map .fz)
    | none=>none
  | .not a,fr=>bndK (ev c a fr) fun x fr=>match rvD fr x with
    | some d=>some (.ok (.fz (.bool (!tD d))),fr)
    | none=>none
  | .cmp o a b,fr=>bndK (ev c a fr) fun x fr=>bndK (ev c b fr) fun y fr=>match rvD fr x,rvD fr y with
    | some d,some e=>okO fr ((cmpD o d e).map fun b=>.fz (.bool b))
    | _,_=>none
  | .and es,fr=>evAnd c es fr
  | .or es,fr=>evOr c es fr
  | .idx a i,fr=>bndK (ev c a fr) fun x fr=>bndK (ev c i fr) fun y fr=>match rvD fr x,rvV y with
    | some d,some e=>okO fr ((idxD d e).map .fz)
    | _,_=>none
  | .slc a lo hi,fr=>bndK (ev c a fr) fun x fr=>bndK (ev c lo fr) fun y fr=>bndK (ev c hi fr) fun z fr=>match rvD fr x,rvV y,rvV z with
    | some d,some l,some h=>okV fr (slcD d l h)
    | _,_,_=>none
  | .call f args,fr=>bndK (evs c args fr) fun rs fr=>callO c f rs fr
  | .bi b args,fr=>if c.hd&&b.loops then none else bndK (evs c args fr) fun rs fr=>match rvDs fr rs with
    | some ds=>okV fr (biD b ds)
    | none=>none
  | .comp elt t it src conds,fr=>if c.hd then none else bndK (evs c src fr) fun rs fr=>match rvVs rs with
    | none=>none
    | some ds=>match iterD it ds with
      | none=>none
      | some items=>bndNK (compL (f:=⟨fun d fr=>match asgT c.pin fr t (.fz d) with
          | none=>none
          | some fr=>bndK (evConds c conds fr) fun b fr=>if b then bndK (ev c elt fr) fun r fr=>okO fr ((rvV r).map some) else some (.ok none,fr)⟩) (tgtVars t) items fr)
          fun ds fr=>some (.ok (.own (.list ds)),fr)
  | .isx i yes no,fr=>match fr[i]? with
    | some (.exc k)=>if yes.contains k=true then some (.ok (.fz (.bool true)),fr) else if no.contains k=true then some (.ok (.fz (.bool false)),fr) else none
    | _=>none
noncomputable def evs (c:Cfg) :List Ex→Fm→Out (List Rv)
  | [],fr=>some (.ok [],fr)
  | e::es,fr=>bndK (ev c e fr) fun r fr=>bndK (evs c es fr) fun rs fr=>some (.ok (r::rs),fr)
noncomputable def evAnd (c:Cfg) :List Ex→Fm→Out Rv
  | [],_=>none
  | e::es,fr=>bndK (ev c e fr) fun r fr=>match rvV r with
    | none=>none
    | some d=>match es with
      | []=>some (.ok r,fr)
      | _::_=>if tD d then evAnd c es fr else some (.ok r,fr)
noncomputable def evOr (c:Cfg) :List Ex→Fm→Out Rv
  | [],_=>none
  | e::es,fr=>bndK (ev c e fr) fun r fr=>match rvV r with
    | none=>none
    | some d=>match es with
      | []=>some (.ok r,fr)
      | _::_=>if tD d then some (.ok r,fr) else evOr c es fr
noncomputable def evConds (c:Cfg) :List Ex→Fm→Out Bool
  | [],fr=>some (.ok true,fr)
  | e::es,fr=>bndK (ev c e fr) fun r fr=>match rvD fr r with
      | none=>none
      | some d=>if tD d then evConds c es fr else some (.ok false,fr)
end
noncomputable def ownL:Option D→Bool
  | some (.list _)=>true
  | _=>false
noncomputable def Tgt.isTup:Tgt→Bool
  | .one _=>false
  | .tup _=>true
noncomputable def setD:D→D→D→Option D
  | .list xs,.int i,d=>if 0≤i∧i<xs.length then some (.list (xs.set i.toNat d)) else none
  | .dict kvs,.str k,d=>if kvs.length<Sz then some (.dict (dsetL kvs k d)) else none
  | _,_,_=>none
mutual
noncomputable def exS (c:Cfg) :St→Fm→Out Ctl
  | .asg t e,fr=>if c.hd&&t.isTup then none else bndK (ev c e fr) fun r fr=>match asgT c.pin fr t r with
    | some fr=>some (.ok .next,fr)
    | none=>none
  | .setI p i e,fr=>bndK (ev c e fr) fun r fr=>if (plOwn fr p).isSome then bndK (ev c i fr) fun k fr=>match rvV r,rvV k,plOwn fr p with
    | some d,some k,some o=>(match setD o k d with
      | some o'=>some (.ok .next,plSet fr p o')
      | none=>none)
    | _,_,_=>none
    else none
  | .app p e,fr=>if ownL (plOwn fr p) then bndK (ev c e fr) fun r fr=>match rvV r,plOwn fr p with
    | some d,some (.list xs)=>if xs.length<Sz then some (.ok .next,plSet fr p (.list (xs++[d]))) else none
    | _,_=>none
    else none
  | .exp e,fr=>bndK (ev c e fr) fun J fr=>some (.ok .next,fr)
  | .iff t a b,fr=>bndK (ev c t fr) fun x fr=>match rvD fr x with
    | some d=>if tD d then exSs c a fr else exSs c b fr
    | none=>none
  | .ret e,fr=>bndK (ev c e fr) fun r fr=>match r with
    | .pl _=>none
    | r=>some (.ok (.ret r),fr)
  | .for_ t it src body tmp,fr=>if c.hd then none else bndK (evs c src fr) fun rs fr=>match rvVs rs with
    | none=>none
    | some ds=>match iterD it ds with
      | none=>none
      | some items=>forL (f:=⟨fun d fr=>match asgT c.pin fr t (.fz d) with
          | none=>none
          | some fr=>exSs c body fr⟩) tmp items fr
  | .no,_=>none
  | .raise k,fr=>if c.hd then none else some (.error k,fr)
  | .try_ body yes v hand,fr=>if c.hd then none else match exSs c body fr with
    | none=>none
    | some (.ok k,fr)=>some (.ok k,fr)
    | some (.error e,fr)=>if yes.contains e=true∧ ¬c.pin.contains v=true then (match exSs {c with hd:=true} hand (fr.set v (.exc e)) with
      | some (.ok k,fr)=>some (.ok k,fr.set v .no)
      | _=>none) else none
noncomputable def exSs (c:Cfg) :List St→Fm→Out Ctl
  | [],fr=>some (.ok .next,fr)
  | s::ss,fr=>bndK (exS c s fr) fun k fr=>match k with
    | .next=>exSs c ss fr
    | .ret r=>some (.ok (.ret r),fr)
end
structure Fn where
  np:Nat
  nv:Nat
  body:List St
structure Pr where
  glob:List D
  fns:List Fn
noncomputable def cF (P:Pr) :Nat→Bool→Nat→List Slot→Option (Except Str Rv×List Slot)
  | 0,_,_,_=>none
  | n+1,hd,f,args=>match P.fns[f]? with
    | none=>none
    | some fn=>if args.length=fn.np then
        match exSs ⟨P.glob,cF P n,pinsOf 0 args,hd⟩ fn.body (args++List.replicate (fn.nv - fn.np) .no) with
        | none=>none
        | some (.error e,fr)=>some (.error e,outsOf args fr)
        | some (.ok .next,fr)=>some (.ok (.fz .none),outsOf args fr)
        | some (.ok (.ret r),fr)=>some (.ok r,outsOf args fr)
      else none
end Mv
end
section
namespace Mv
inductive NE where | v (i:Nat) | c (n:Nat) | a (x y:NE) | m (k:Nat) (x:NE)
inductive IE where | v (i:Nat) | c (z:Int) | n (x:NE) | a (x y:IE) | s (x y:IE) | g (x:IE) | m (k:Int) (x:IE)
noncomputable def atN:List Nat→Nat→Nat
  | [],_=>0
  | x::_,0=>x
  | _::l,i+1=>atN l i
noncomputable def atI:List Int→Nat→Int
  | [],_=>0
  | x::_,0=>x
  | _::l,i+1=>atI l i
noncomputable def NE.d (ns:List Nat) :NE→Nat
  | .v i=>atN ns i
  | .c n=>n
  | .a x y=>x.d ns+y.d ns
  | .m k x=>k*x.d ns
noncomputable def IE.d (ns:List Nat) (is:List Int) :IE→Int
  | .v i=>atI is i
  | .c z=>z
  | .n x=>((x.d ns:Nat) :Int)
  | .a x y=>x.d ns is+y.d ns is
  | .s x y=>x.d ns is - y.d ns is
  | .g x=>- x.d ns is
  | .m k x=>k*x.d ns is
noncomputable def vadd:List Int→List Int→List Int
  | [],l=>l
  | l,[]=>l
  | x::l,y::r=>(x+y)::vadd l r
noncomputable def vmul (k:Int) (l:List Int) :List Int:=l.map (k * ·)
noncomputable def unit:Nat→List Int
  | 0=>[1]
  | i+1=>0::unit i
structure LF where
  k:Int
  n:List Int
  i:List Int
noncomputable def LF.add (x y:LF) :LF:=⟨x.k+y.k,vadd x.n y.n,vadd x.i y.i⟩
noncomputable def LF.mul (k:Int) (x:LF) :LF:=⟨k*x.k,vmul k x.n,vmul k x.i⟩
noncomputable def NE.l:NE→LF
  | .v i=>⟨0,unit i,[]⟩
  | .c n=>⟨n,[],[]⟩
  | .a x y=>x.l.add y.l
  | .m k x=>x.l.mul k
noncomputable def IE.l:IE→LF
  | .v i=>⟨0,[],unit i⟩
  | .c z=>⟨z,[],[]⟩
  | .n x=>x.l
  | .a x y=>x.l.add y.l
  | .s x y=>x.l.add (y.l.mul (-1))
  | .g x=>x.l.mul (-1)
  | .m k x=>x.l.mul k
noncomputable def dotN:List Int→List Nat→Int
  | x::l,y::r=>x*y+dotN l r
  | _,_=>0
noncomputable def dotI:List Int→List Int→Int
  | x::l,y::r=>x*y+dotI l r
  | _,_=>0
noncomputable def LF.d (ns:List Nat) (is:List Int) (x:LF) :Int:=x.k+dotN x.n ns+dotI x.i is
theorem aac (a b c d:Int) :a+b+(c+d)=a+c+(b+d):=by
  rw [Int.add_assoc,Int.add_assoc,Int.add_left_comm b]
theorem m1 (y:Int) : -1*y = -y:=by rw [Int.neg_mul,Int.one_mul]
theorem dotN_add:∀(a b:List Int) (r:List Nat),dotN (vadd a b) r=dotN a r+dotN b r
  | [],b,r=>(Int.zero_add _).symm
  | x::a,[],r=>(Int.add_zero _).symm
  | x::a,y::b,[]=>rfl
  | x::a,y::b,z::r=>by
    show (x+y)*(z:Int)+dotN (vadd a b) r=x*z+dotN a r+(y*z+dotN b r)
    rw [dotN_add a b r,Int.add_mul]; exact aac _ _ _ _
theorem dotI_add:∀(a b:List Int) (r:List Int),dotI (vadd a b) r=dotI a r+dotI b r
  | [],b,r=>(Int.zero_add _).symm
  | x::a,[],r=>(Int.add_zero _).symm
  | x::a,y::b,[]=>rfl
  | x::a,y::b,z::r=>by
    show (x+y)*z+dotI (vadd a b) r=x*z+dotI a r+(y*z+dotI b r)
    rw [dotI_add a b r,Int.add_mul]; exact aac _ _ _ _
theorem dotN_mul (k:Int) :∀(a:List Int) (r:List Nat),dotN (vmul k a) r=k*dotN a r
  | [],r=>(Int.mul_zero k).symm
  | x::a,[]=>(Int.mul_zero k).symm
  | x::a,z::r=>by
    show k*x*(z:Int)+dotN (vmul k a) r=k*(x*z+dotN a r)
    rw [dotN_mul k a r,Int.mul_add,Int.mul_assoc]
theorem dotI_mul (k:Int) :∀(a:List Int) (r:List Int),dotI (vmul k a) r=k*dotI a r
  | [],r=>(Int.mul_zero k).symm
  | x::a,[]=>(Int.mul_zero k).symm
  | x::a,z::r=>by
    show k*x*z+dotI (vmul k a) r=k*(x*z+dotI a r)
    rw [dotI_mul k a r,Int.mul_add,Int.mul_assoc]
theorem dotN_unit:∀(i:Nat) (r:List Nat),dotN (unit i) r=(atN r i:Int)
  | 0,[]=>rfl
  | 0,x::r=>by show 1*(x:Int)+0=x; rw [Int.one_mul,Int.add_zero]
  | i+1,[]=>rfl
  | i+1,x::r=>by show 0*(x:Int)+dotN (unit i) r=(atN r i:Int); rw [dotN_unit i r,Int.zero_mul,Int.zero_add]
theorem dotI_unit:∀(i:Nat) (r:List Int),dotI (unit i) r=atI r i
  | 0,[]=>rfl
  | 0,x::r=>by show 1*x+0=x; rw [Int.one_mul,Int.add_zero]
  | i+1,[]=>rfl
  | i+1,x::r=>by show 0*x+dotI (unit i) r=atI r i; rw [dotI_unit i r,Int.zero_mul,Int.zero_add]
theorem LF.d_add (ns:List Nat) (is:List Int) (x y:LF) :(x.add y).d ns is=x.d ns is+y.d ns is:=by
  show x.k+y.k+dotN (vadd x.n y.n) ns+dotI (vadd x.i y.i) is=(x.k+dotN x.n ns+dotI x.i is)+(y.k+dotN y.n ns+dotI y.i is)
  rw [dotN_add,dotI_add,aac x.k]; exact aac _ _ _ _
theorem LF.d_mul (ns:List Nat) (is:List Int) (k:Int) (x:LF) :(x.mul k).d ns is=k*x.d ns is:=by
  show k*x.k+dotN (vmul k x.n) ns+dotI (vmul k x.i) is=k*(x.k+dotN x.n ns+dotI x.i is)
  rw [dotN_mul,dotI_mul,Int.mul_add,Int.mul_add]
theorem LF.d_sub (ns:List Nat) (is:List Int) (x y:LF) :(x.add (y.mul (-1))).d ns is=x.d ns is - y.d ns is:=by
  rw [LF.d_add,LF.d_mul,m1,Int.sub_eq_add_neg]
theorem NE.l_d (ns:List Nat) (is:List Int) :∀e:NE,e.l.d ns is=(e.d ns:Int)
  | .v i=>by show 0+dotN (unit i) ns+0=(atN ns i:Int); rw [dotN_unit,Int.zero_add,Int.add_zero]
  | .c n=>by show (n:Int)+0+0=n; rw [Int.add_zero,Int.add_zero]
  | .a x y=>by show (x.l.add y.l).d ns is=((x.d ns+y.d ns:Nat) :Int); rw [LF.d_add,NE.l_d ns is x,NE.l_d ns is y,Int.natCast_add]
  | .m k x=>by show (x.l.mul k).d ns is=((k*x.d ns:Nat) :Int); rw [LF.d_mul,NE.l_d ns is x,Int.natCast_mul]
theorem IE.l_d (ns:List Nat) (is:List Int) :∀e:IE,e.l.d ns is=e.d ns is
  | .v i=>by show 0+0+dotI (unit i) is=atI is i; rw [dotI_unit,Int.add_zero,Int.zero_add]
  | .c z=>by show z+0+0=z; rw [Int.add_zero,Int.add_zero]
  | .n x=>NE.l_d ns is x
  | .a x y=>by show (x.l.add y.l).d ns is=x.d ns is+y.d ns is; rw [LF.d_add,IE.l_d ns is x,IE.l_d ns is y]
  | .s x y=>by show (x.l.add (y.l.mul (-1))).d ns is=x.d ns is - y.d ns is; rw [LF.d_sub,IE.l_d ns is x,IE.l_d ns is y]
  | .g x=>by show (x.l.mul (-1)).d ns is = - x.d ns is; rw [LF.d_mul,IE.l_d ns is x,m1]
  | .m k x=>by show (x.l.mul k).d ns is=k*x.d ns is; rw [LF.d_mul,IE.l_d ns is x]
inductive Cn where | le (x y:IE) | eq (x y:IE) | nle (x y:NE) | neq (x y:NE)
noncomputable def Cn.d (ns:List Nat) (is:List Int) :Cn→Prop
  | .le x y=>x.d ns is≤y.d ns is
  | .eq x y=>x.d ns is=y.d ns is
  | .nle x y=>x.d ns≤y.d ns
  | .neq x y=>x.d ns=y.d ns
noncomputable def Cn.l:Cn→LF
  | .le x y=>y.l.add (x.l.mul (-1))
  | .eq x y=>y.l.add (x.l.mul (-1))
  | .nle x y=>y.l.add (x.l.mul (-1))
  | .neq x y=>y.l.add (x.l.mul (-1))
noncomputable def Cn.ok (k:Int) :Cn→Bool
  | .le _ _=>decide (0≤k)
  | .eq _ _=>true
  | .nle _ _=>decide (0≤k)
  | .neq _ _=>true
theorem Cn.nn {ns:List Nat} {is:List Int} {k:Int} {c:Cn} (h:c.d ns is) (o:c.ok k=true) :0≤(c.l.mul k).d ns is:=by
  rw [LF.d_mul]
  cases c with
  | le x y=>
    show 0≤k*(y.l.add (x.l.mul (-1))).d ns is
    rw [LF.d_sub,IE.l_d,IE.l_d]
    exact Int.mul_nonneg (of_decide_eq_true o) (Int.sub_nonneg_of_le h)
  | eq x y=>
    show 0≤k*(y.l.add (x.l.mul (-1))).d ns is
    rw [LF.d_sub,IE.l_d,IE.l_d,show x.d ns is=y.d ns is from h,Int.sub_self,Int.mul_zero]; exact Int.le_refl _
  | nle x y=>
    show 0≤k*(y.l.add (x.l.mul (-1))).d ns is
    rw [LF.d_sub,NE.l_d,NE.l_d]
    exact Int.mul_nonneg (of_decide_eq_true o) (Int.sub_nonneg_of_le (Int.ofNat_le.mpr h))
  | neq x y=>
    show 0≤k*(y.l.add (x.l.mul (-1))).d ns is
    rw [LF.d_sub,NE.l_d,NE.l_d,show x.d ns=y.d ns from h,Int.sub_self,Int.mul_zero]; exact Int.le_refl _
noncomputable def sumC:List (Int×Cn)→LF
  | []=>⟨0,[],[]⟩
  | (k,c)::cs=>(c.l.mul k).add (sumC cs)
noncomputable def okC:List (Int×Cn)→Bool
  | []=>true
  | (k,c)::cs=>c.ok k&&okC cs
noncomputable def LF.neg (x:LF) :Bool:=decide (x.k<0)&&(x.n.all (fun z=>decide (z≤0))&&x.i.all fun z=>decide (z=0))
theorem dotN_np:∀(a:List Int) (r:List Nat),(a.all fun z=>decide (z≤0))=true→dotN a r≤0
  | [],r=>@fun J=>Int.le_refl 0
  | x::a,[]=>@fun J=>Int.le_refl 0
  | x::a,z::r=>@fun h=>by
    rw [List.all_cons,Bool.and_eq_true,decide_eq_true_eq] at h
    exact Int.add_le_add (Int.mul_nonpos_of_nonpos_of_nonneg h.1 (Int.natCast_nonneg z)) (dotN_np a r h.2)
theorem dotI_zero:∀(a r:List Int),(a.all fun z=>decide (z=0))=true→dotI a r=0
  | [],r=>@fun J=>rfl
  | x::a,[]=>@fun J=>rfl
  | x::a,z::r=>@fun h=>by
    rw [List.all_cons,Bool.and_eq_true,decide_eq_true_eq] at h
    show x*z+dotI a r=0
    rw [dotI_zero a r h.2,h.1,Int.zero_mul,Int.add_zero]
theorem LF.neg_d {ns:List Nat} {is:List Int} {x:LF} (h:x.neg=true) :x.d ns is<0:=by
  unfold LF.neg at h
  rw [Bool.and_eq_true,Bool.and_eq_true,decide_eq_true_eq] at h
  have h1:=dotN_np x.n ns h.2.1
  have h2:=dotI_zero x.i is h.2.2
  unfold LF.d; omega
noncomputable def imp (ns:List Nat) (is:List Int) (G:Prop) :List (Int×Cn)→Prop
  | []=>G
  | (_,c)::cs=>c.d ns is→imp ns is G cs
theorem imp_ok {ns:List Nat} {is:List Int} {G:Prop} :∀(cs:List (Int×Cn)) (acc:Int),okC cs=true→0≤acc→(acc+(sumC cs).d ns is<0∨(0≤acc+(sumC cs).d ns is→G))→imp ns is G cs
  | []=>@fun acc J h0 h=>by
    have e:(sumC []).d ns is=0:=by show (0:Int)+0+0=0; rfl
    rw [e,Int.add_zero] at h
    exact h.elim (fun q=>absurd h0 (Int.not_le.mpr q)) fun q=>q h0
  | (k,c)::cs=>@fun acc ho h0 h=>by
    intro hc
    rw [show okC ((k,c)::cs)=(c.ok k&&okC cs) from rfl,Bool.and_eq_true] at ho
    have n:=Cn.nn (k:=k) hc ho.1
    refine imp_ok cs (acc+(c.l.mul k).d ns is) ho.2 (by omega) ?_
    have e:(sumC ((k,c)::cs)).d ns is=(c.l.mul k).d ns is+(sumC cs).d ns is:=LF.d_add ..
    rw [e,← Int.add_assoc] at h
    exact h
noncomputable def Cn.den:Cn→LF
  | .le x y=>(x.l.add (y.l.mul (-1))).add ⟨-1,[],[]⟩
  | .nle x y=>(x.l.add (y.l.mul (-1))).add ⟨-1,[],[]⟩
  | _=>⟨0,[],[]⟩
noncomputable def Cn.isLe:Cn→Bool
  | .le _ _=>true
  | .nle _ _=>true
  | _=>false
theorem sub1 {a b:Int} (h:a - b + -1<0) :a≤b:=by omega
theorem Cn.den_d {ns:List Nat} {is:List Int} {c:Cn} (hl:c.isLe=true) (h:c.den.d ns is<0) :c.d ns is:=by
  have key:∀x y:LF,((x.add (y.mul (-1))).add ⟨-1,[],[]⟩).d ns is=x.d ns is - y.d ns is + -1:=fun x y=>by
    rw [LF.d_add,LF.d_sub]; rfl
  cases c with
  | le x y=>
    have h:((x.l.add (y.l.mul (-1))).add ⟨-1,[],[]⟩).d ns is<0:=h
    rw [key,IE.l_d,IE.l_d] at h
    exact sub1 h
  | nle x y=>
    have h:((x.l.add (y.l.mul (-1))).add ⟨-1,[],[]⟩).d ns is<0:=h
    rw [key,NE.l_d,NE.l_d] at h
    exact Int.ofNat_le.mp (sub1 h)
  | eq x y=>cases hl
  | neq x y=>cases hl
noncomputable def chk (g:Int) (G:Cn) (cs:List (Int×Cn)) :Bool:=decide (0≤g)&&(G.isLe&&(okC cs&&((G.den.mul g).add (sumC cs)).neg))
theorem lin (ns:List Nat) (is:List Int) (g:Int) (G:Cn) (cs:List (Int×Cn)) (h:chk g G cs=true) :imp ns is (G.d ns is) cs:=by
  unfold chk at h
  rw [Bool.and_eq_true,Bool.and_eq_true,Bool.and_eq_true,decide_eq_true_eq] at h
  obtain ⟨h0,h1,h2,h3⟩:=h
  refine imp_ok cs 0 h2 (Int.le_refl _) (.inr fun hs=>?_)
  rw [Int.zero_add] at hs
  have hn:=LF.neg_d (ns:=ns) (is:=is) h3
  rw [LF.d_add,LF.d_mul] at hn
  refine Cn.den_d h1 (Int.not_le.mp fun q=>?_)
  have:=Int.mul_nonneg h0 q
  omega
noncomputable def chkF (cs:List (Int×Cn)) :Bool:=okC cs&&(sumC cs).neg
theorem linF (ns:List Nat) (is:List Int) (cs:List (Int×Cn)) (h:chkF cs=true) :imp ns is False cs:=by
  unfold chkF at h
  rw [Bool.and_eq_true] at h
  refine imp_ok cs 0 h.1 (Int.le_refl _) (.inl ?_)
  rw [Int.zero_add]
  exact LF.neg_d h.2
end Mv
end
section
namespace Mv
open PySem
theorem compL_cons (f:Kt D (Option D)) (cl:List Nat) (d:D) (ds:List D) (fr:Fm) : @compL f cl (d::ds) fr=bndK (f.run d (clr fr cl)) fun r fr=>bndK (@compL f cl ds fr) fun rs fr=>match r with
    | none=>some (.ok rs,fr)
    | some x=>some (.ok (x::rs),fr):=rfl
theorem forL_cons (f:Kt D Ctl) (cl:List Nat) (d:D) (ds:List D) (fr:Fm) : @forL f cl (d::ds) fr=bndNK (f.run d (clr fr cl)) fun c fr=>match c with
    | .next=>@forL f cl ds fr
    | .ret r=>some (.ok (.ret r),fr):=rfl
theorem bnd_id {α:Type} (q:Out α) : @bnd _ _ q ⟨fun rs fr=>some (.ok rs,fr)⟩=q:=by rcases q with _ | ⟨_ | _,_⟩ <;> rfl
section
variable (c:Cfg) (fr:Fm)
theorem ev_lit (d:D) :ev c (.lit d) fr=some (.ok (.fz d),fr):=rfl
theorem ev_gl (k:Nat) :ev c (.gl k) fr=match c.glob[k]? with
    | some d=>some (.ok (.fz d),fr)
    | none=>none:=rfl
theorem ev_var (i:Nat) :ev c (.var i) fr=match fr[i]? with
    | some (.fz d)=>some (.ok (.fz d),fr)
    | some (.own d)=>some (.ok (.fz d),fr.set i (.fz d))
    | _=>none:=rfl
theorem ev_pl (p:Pl) :ev c (.pl p) fr=if plLive fr p then some (.ok (.pl p),fr) else none:=rfl
theorem ev_tup (es:List Ex) :ev c (.tup es) fr=bnd (k:=⟨fun rs fr=>okO fr ((rvVs rs).map fun ds=>.fz (.tuple ds))⟩) (evs c es fr):=rfl
theorem ev_list (es:List Ex) :ev c (.list es) fr=bnd (k:=⟨fun rs fr=>okO fr ((rvVs rs).map fun ds=>.own (.list ds))⟩) (evs c es fr):=rfl
theorem ev_op2 (o:Op2) (a b:Ex) :ev c (.op2 o a b) fr=bnd (k:=⟨fun x fr=>bnd (k:=⟨fun y fr=>match rvD fr x,rvD fr y with
    | some d,some e=>okV fr (op2 o d e)
    | _,_=>none⟩) (ev c b fr)⟩) (ev c a fr):=rfl
theorem ev_neg (a:Ex) :ev c (.neg a) fr=bnd (k:=⟨fun x fr=>match rvV x with
    | some d=>okO fr ((negD d).map .fz)
    | none=>none⟩) (ev c a fr):=rfl
theorem ev_not (a:Ex) :ev c (.not a) fr=bnd (k:=⟨fun x fr=>match rvD fr x with
    | some d=>some (.ok (.fz (.bool (!tD d))),fr)
    | none=>none⟩) (ev c a fr):=rfl
theorem ev_cmp (o:Cm) (a b:Ex) :ev c (.cmp o a b) fr=bnd (k:=⟨fun x fr=>bnd (k:=⟨fun y fr=>match rvD fr x,rvD fr y with
    | some d,some e=>okO fr ((cmpD o d e).map fun b=>.fz (.bool b))
    | _,_=>none⟩) (ev c b fr)⟩) (ev c a fr):=rfl
theorem ev_and (es:List Ex) :ev c (.and es) fr=evAnd c es fr:=rfl
theorem ev_or (es:List Ex) :ev c (.or es) fr=evOr c es fr:=rfl
theorem ev_idx (a i:Ex) :ev c (.idx a i) fr=bnd (k:=⟨fun x fr=>bnd (k:=⟨fun y fr=>match rvD fr x,rvV y with
    | some d,some e=>okO fr ((idxD d e).map .fz)
    | _,_=>none⟩) (ev c i fr)⟩) (ev c a fr):=rfl
theorem ev_slc (a lo hi:Ex) :ev c (.slc a lo hi) fr=bnd (k:=⟨fun x fr=>bnd (k:=⟨fun y fr=>bnd (k:=⟨fun z fr=>match rvD fr x,rvV y,rvV z with
    | some d,some l,some h=>okV fr (slcD d l h)
    | _,_,_=>none⟩) (ev c hi fr)⟩) (ev c lo fr)⟩) (ev c a fr):=rfl
theorem ev_call (f:Nat) (args:List Ex) :ev c (.call f args) fr=bnd (k:=⟨fun rs fr=>callO c f rs fr⟩) (evs c args fr):=rfl
theorem ev_bi (b:Bi) (args:List Ex) :ev c (.bi b args) fr=if c.hd&&b.loops then none else bnd (k:=⟨fun rs fr=>match rvDs fr rs with
    | some ds=>okV fr (biD b ds)
    | none=>none⟩) (evs c args fr):=rfl
noncomputable def compB (elt:Ex) (t:Tgt) (conds:List Ex) (items:List D) :Out (List D):=
  compL (f:=⟨fun d fr=>match asgT c.pin fr t (.fz d) with
          | none=>none
          | some fr=>bndK (evConds c conds fr) fun b fr=>if b then bndK (ev c elt fr) fun r fr=>okO fr ((rvV r).map some) else some (.ok none,fr)⟩) (tgtVars t) items fr
theorem ev_comp (elt:Ex) (t:Tgt) (it:Itk) (src conds:List Ex) :ev c (.comp elt t it src conds) fr=if c.hd then none else bnd (k:=⟨fun rs fr=>match rvVs rs with
    | none=>none
    | some ds=>match iterD it ds with
      | none=>none
      | some items=>bndN (k:=⟨fun ds fr=>some (.ok (.own (.list ds)),fr)⟩) (compB c fr elt t conds items)⟩) (evs c src fr):=rfl
theorem ev_isx (i:Nat) (yes no:List Str) :ev c (.isx i yes no) fr=match fr[i]? with
    | some (.exc k)=>if yes.contains k=true then some (.ok (.fz (.bool true)),fr) else if no.contains k=true then some (.ok (.fz (.bool false)),fr) else none
    | _=>none:=rfl
theorem compB_nil (elt:Ex) (t:Tgt) (conds:List Ex) :compB c fr elt t conds []=some (.ok [],clr fr (tgtVars t)):=rfl
theorem compB_cons (elt:Ex) (t:Tgt) (conds:List Ex) (d:D) (ds:List D) :compB c fr elt t conds (d::ds) =
    match asgT c.pin (clr fr (tgtVars t)) t (.fz d) with
    | none=>none
    | some fr=>bnd (k:=⟨fun b fr=>if b=true then bnd (k:=⟨fun r fr=>match rvV r with
        | none=>none
        | some x=>bnd (k:=⟨fun rs fr=>some (.ok (x::rs),fr)⟩) (compB c fr elt t conds ds)⟩) (ev c elt fr) else compB c fr elt t conds ds⟩) (evConds c conds fr):=by
  unfold compB
  refine (compL_cons _ _ _ _ _).trans ?_
  dsimp only
  cases asgT c.pin (clr fr (tgtVars t)) t (.fz d) with
  | none=>rfl
  | some fr=>
    dsimp only [bndK]
    rcases evConds c conds fr with _ | ⟨_ | b,fr⟩
    · rfl
    · rfl
    · rw [bnd_ok,bnd_ok]
      cases b with
      | false=>
        simp only [Bool.false_eq_true,if_false,bnd_ok]
        exact bnd_id _
      | true=>
        simp only [if_true]
        rcases ev c elt fr with _ | ⟨_ | r,fr⟩
        · rfl
        · rfl
        · rw [bnd_ok,bnd_ok]
          cases rvV r with
          | none=>rfl
          | some x=>rfl
theorem evs_nil:evs c [] fr=some (.ok [],fr):=rfl
theorem evs_cons (e:Ex) (es:List Ex) :evs c (e::es) fr=bnd (k:=⟨fun r fr=>bnd (k:=⟨fun rs fr=>some (.ok (r::rs),fr)⟩) (evs c es fr)⟩) (ev c e fr):=rfl
theorem evAnd_one (e:Ex) :evAnd c [e] fr=bnd (k:=⟨fun r fr=>match rvV r with
    | none=>none
    | some _=>some (.ok r,fr)⟩) (ev c e fr):=rfl
theorem evAnd_cons (e e':Ex) (es:List Ex) :evAnd c (e::e'::es) fr=bnd (k:=⟨fun r fr=>match rvV r with
      | none=>none
      | some d=>if tD d then evAnd c (e'::es) fr else some (.ok r,fr)⟩) (ev c e fr):=rfl
theorem evOr_one (e:Ex) :evOr c [e] fr=bnd (k:=⟨fun r fr=>match rvV r with
    | none=>none
    | some _=>some (.ok r,fr)⟩) (ev c e fr):=rfl
theorem evOr_cons (e e':Ex) (es:List Ex) :evOr c (e::e'::es) fr=bnd (k:=⟨fun r fr=>match rvV r with
      | none=>none
      | some d=>if tD d then some (.ok r,fr) else evOr c (e'::es) fr⟩) (ev c e fr):=rfl
theorem evConds_cons (e:Ex) (es:List Ex) :evConds c (e::es) fr=bnd (k:=⟨fun r fr=>match rvD fr r with
      | none=>none
      | some d=>if tD d then evConds c es fr else some (.ok false,fr)⟩) (ev c e fr):=rfl
theorem exS_asg (t:Tgt) (e:Ex) :exS c (.asg t e) fr=if c.hd&&t.isTup then none else bnd (k:=⟨fun r fr=>match asgT c.pin fr t r with
    | some fr=>some (.ok .next,fr)
    | none=>none⟩) (ev c e fr):=rfl
theorem exS_setI (p:Pl) (i e:Ex) :exS c (.setI p i e) fr=bnd (k:=⟨fun r fr=>if (plOwn fr p).isSome then bnd (k:=⟨fun k fr=>match rvV r,rvV k,plOwn fr p with
    | some d,some k,some o=>(match setD o k d with
      | some o'=>some (.ok .next,plSet fr p o')
      | none=>none)
    | _,_,_=>none⟩) (ev c i fr) else none⟩) (ev c e fr):=rfl
theorem exS_app (p:Pl) (e:Ex) :exS c (.app p e) fr=if ownL (plOwn fr p) then bnd (k:=⟨fun r fr=>match rvV r,plOwn fr p with
    | some d,some (.list xs)=>if xs.length<Sz then some (.ok .next,plSet fr p (.list (xs++[d]))) else none
    | _,_=>none⟩) (ev c e fr) else none:=rfl
theorem exS_exp (e:Ex) :exS c (.exp e) fr=bnd (k:=⟨fun J fr=>some (.ok .next,fr)⟩) (ev c e fr):=rfl
theorem exS_iff (t:Ex) (a b:List St) :exS c (.iff t a b) fr=bnd (k:=⟨fun x fr=>match rvD fr x with
    | some d=>if tD d then exSs c a fr else exSs c b fr
    | none=>none⟩) (ev c t fr):=rfl
theorem exS_ret (e:Ex) :exS c (.ret e) fr=bnd (k:=⟨fun r fr=>match r with
    | .pl _=>none
    | r=>some (.ok (.ret r),fr)⟩) (ev c e fr):=rfl
noncomputable def forB (t:Tgt) (body:List St) (tmp:List Nat) (items:List D) :Out Ctl:=
  forL (f:=⟨fun d fr=>match asgT c.pin fr t (.fz d) with
          | none=>none
          | some fr=>exSs c body fr⟩) tmp items fr
theorem exS_for (t:Tgt) (it:Itk) (src:List Ex) (body:List St) (tmp:List Nat) :exS c (.for_ t it src body tmp) fr=if c.hd then none else bnd (k:=⟨fun rs fr=>match rvVs rs with
    | none=>none
    | some ds=>match iterD it ds with
      | none=>none
      | some items=>forB c fr t body tmp items⟩) (evs c src fr):=rfl
theorem forB_nil (t:Tgt) (body:List St) (tmp:List Nat) :forB c fr t body tmp []=some (.ok .next,clr fr tmp):=rfl
theorem forB_cons (t:Tgt) (body:List St) (tmp:List Nat) (d:D) (ds:List D) :forB c fr t body tmp (d::ds) =
    match asgT c.pin (clr fr tmp) t (.fz d) with
    | none=>none
    | some fr=>bndN (k:=⟨fun k fr=>match k with
      | .next=>forB c fr t body tmp ds
      | .ret r=>some (.ok (.ret r),fr)⟩) (exSs c body fr):=by
  unfold forB
  refine (forL_cons _ _ _ _ _).trans ?_
  dsimp only
  cases asgT c.pin (clr fr tmp) t (.fz d) with
  | none=>rfl
  | some fr=>rfl
noncomputable def whB (t:Ex) (body:List St) (tmp:List Nat) (n:Nat) :Out Ctl:=
  whL (t:=⟨fun J fr=>bndK (ev c t fr) fun r fr=>match rvD fr r with
      | some d=>some (.ok (tD d),fr)
      | none=>none⟩) (f:=⟨fun J fr=>exSs c body fr⟩) tmp n fr
theorem exS_raise (k:Str) :exS c (.raise k) fr=if c.hd then none else some (.error k,fr):=rfl
noncomputable def tryH (v:Nat) (m:Out Ctl) :Out Ctl:=match m with
  | some (.ok k,fr)=>some (.ok k,fr.set v .no)
  | _=>none
noncomputable def tryO (yes:List Str) (v:Nat) (hand:List St) (m:Out Ctl) :Out Ctl:=match m with
  | none=>none
  | some (.ok k,fr)=>some (.ok k,fr)
  | some (.error e,fr)=>if yes.contains e=true∧ ¬c.pin.contains v=true then tryH v (exSs {c with hd:=true} hand (fr.set v (.exc e))) else none
theorem exS_try (body:List St) (yes:List Str) (v:Nat) (hand:List St) :exS c (.try_ body yes v hand) fr=if c.hd then none else tryO c yes v hand (exSs c body fr):=rfl
theorem tryO_ok (yes:List Str) (v:Nat) (hand:List St) (k:Ctl) :tryO c yes v hand (some (.ok k,fr))=some (.ok k,fr):=rfl
theorem tryO_err (yes:List Str) (v:Nat) (hand:List St) (e:Str) :tryO c yes v hand (some (.error e,fr))=if yes.contains e=true∧ ¬c.pin.contains v=true then tryH v (exSs {c with hd:=true} hand (fr.set v (.exc e))) else none:=rfl
theorem tryH_ok (v:Nat) (k:Ctl) :tryH v (some (.ok k,fr))=some (.ok k,fr.set v .no):=rfl
theorem exSs_cons (s:St) (ss:List St) :exSs c (s::ss) fr=bnd (k:=⟨fun k fr=>match k with
    | .next=>exSs c ss fr
    | .ret r=>some (.ok (.ret r),fr)⟩) (exS c s fr):=by rfl
end
noncomputable def finF (args:List Slot) (m:Out Ctl) :Option (Except Str Rv×List Slot):=
  match m with
  | none=>none
  | some (.error e,fr)=>some (.error e,outsOf args fr)
  | some (.ok .next,fr)=>some (.ok (.fz .none),outsOf args fr)
  | some (.ok (.ret r),fr)=>some (.ok r,outsOf args fr)
theorem finF_err (args:List Slot) (e:Str) (fr:Fm) :finF args (some (.error e,fr))=some (.error e,outsOf args fr):=rfl
theorem o_addS (a b:Str) :op2 .add (.str a) (.str b)=if a.cps.size+b.cps.size≤Sz then some (.fz (.str ⟨a.cps++b.cps⟩)) else none:=rfl
theorem o_addT (a b:List D) :op2 .add (.tuple a) (.tuple b)=if a.length+b.length≤Sz then some (.fz (.tuple (a++b))) else none:=rfl
theorem o_addL (a b:List D) :op2 .add (.list a) (.list b)=if a.length+b.length≤Sz then some (.own (.list (a++b))) else none:=rfl
theorem o_fdiv (a b:Int) :op2 .fdiv (.int a) (.int b)=if b≠0∧b.natAbs<2 ^ 64 then some (.fz (.int (a.fdiv b))) else none:=rfl
theorem o_mod (a b:Int) :op2 .mod (.int a) (.int b)=if b=0 then none else some (.fz (.int (a.fmod b))):=rfl
theorem b_len (a:D) :biD .len [a]=(lenD a).map fun (n:Nat)=>.fz (.int n):=rfl
theorem e_int (a b:Int) :eqD (.int a) (.int b)=some (a==b):=rfl
theorem e_list (a b:List D) :eqD (.list a) (.list b)=if eqOk (.list a) (.list b) then some (PyData.eqv (.list a) (.list b)) else none:=rfl
end Mv
end
section
namespace Mv
open PySem
theorem b_count (xs:List D) (b:Bool) :biD .count [.list xs,.bool b]=(boolsOf xs).map fun bs=>.fz (.int (bs.count b:Nat)):=rfl
theorem o_mulS (a:Str) (n:Int) :op2 .mul (.str a) (.int n)=if -1000000000≤n∧n≤1000000000∧a.cps.size*n.toNat≤Sz then some (.fz (.str ⟨(rep n a.cps.toList).toArray⟩)) else none:=rfl
theorem e_strD (a b:Str) :eqD (.str a) (.str b)=some (decide (a=b)):=by
  show some (a.cps.toList==b.cps.toList)=_
  congr 1
  obtain ⟨⟨l⟩⟩:=a; obtain ⟨⟨k⟩⟩:=b
  by_cases q:l=k
  · subst q; simp
  · have h1:¬((⟨⟨l⟩⟩ :Str)=⟨⟨k⟩⟩):=by intro e; apply q; injection e with e; injection e
    rw [decide_eq_false h1]; simpa using q
end Mv
end
section
namespace Mv
open PySem PySem.Builtin PySem.Builtin.Str PyProof.Rows
end Mv
end
section
namespace Mv
open PySem
structure Q (W:Type) where
  bad:W
  b:Option Bool→(Bool→W)→W
  t:Bool→(Bool→W)→W
  v:Option Rv→(Rv→W)→W
  d:Option D→(D→W)→W
  l:Option (List D)→(List D→W)→W
  lp:Out Ctl→W→(Except Str Ctl→Fm→W)→W
  cp:Out (List D)→W→(Except Str (List D)→Fm→W)→W
  c:Option (Except Str Rv×List Slot)→(Except Str Rv→List Slot→W)→W
section
variable {W:Type}
noncomputable def up {α β:Type} (k:Except Str β→Fm→W) (f:α→Fm→W) :Except Str α→Fm→W
  | .error e,fr=>k (.error e) fr
  | .ok a,fr=>f a fr
noncomputable def opt {α:Type} (q:Q W) (x:Option α) (f:α→W) :W:=match x with
  | none=>q.bad
  | some a=>f a
noncomputable def cnd (b:Bool) (x y:W) :W:=match b with
  | true=>x
  | false=>y
noncomputable def nrm:Fm→(Fm→W)→W
  | [],k=>k []
  | s::fr,k=>nrm fr fun fr=>k (s::fr)
noncomputable def rvK (q:Q W) (r:Rv) (x:W) :W:=match r with
  | .pl _=>q.bad
  | _=>x
noncomputable def varK (q:Q W) (s:Option Slot) (fr:Fm) (i:Nat) (k:Except Str Rv→Fm→W) :W:=match s with
  | some (.fz d)=>k (.ok (.fz d)) fr
  | some (.own d)=>nrm (fr.set i (.fz d)) fun fr=>k (.ok (.fz d)) fr
  | _=>q.bad
noncomputable def compR (k:Except Str (List D)→Fm→W) (r:Option D) :Except Str (List D)→Fm→W:=up k fun rs fr=>match r with
  | none=>k (.ok rs) fr
  | some x=>k (.ok (x::rs)) fr
noncomputable def compU (q:Q W) (one:D→Fm→(Except Str (Option D)→Fm→W)→W) (x:List D→Fm→Out (List D)) (cl:List Nat) :List D→Fm→(Except Str (List D)→Fm→W)→W
  | [],fr,k=>k (.ok []) (clr fr cl)
  | d::ds,fr,k=>nrm (clr fr cl) fun fr=>one d fr (up k fun r fr=>q.cp (x ds fr) (compU q one x cl ds fr (compR k r)) (compR k r))
noncomputable def forK (q:Q W) (x:Fm→Out Ctl) (u:Fm→W) (k:Except Str Ctl→Fm→W) :Except Str Ctl→Fm→W
  | .error _,_=>q.bad
  | .ok .next,fr=>q.lp (x fr) (u fr) k
  | .ok (.ret r),fr=>k (.ok (.ret r)) fr
noncomputable def forU (q:Q W) (one:D→Fm→(Except Str Ctl→Fm→W)→W) (x:List D→Fm→Out Ctl) (cl:List Nat) :List D→Fm→(Except Str Ctl→Fm→W)→W
  | [],fr,k=>k (.ok .next) (clr fr cl)
  | d::ds,fr,k=>nrm (clr fr cl) fun fr=>one d fr (forK q (x ds) (fun fr=>forU q one x cl ds fr k) k)
mutual
noncomputable def wp (q:Q W) (c:Cfg) :Ex→Fm→(Except Str Rv→Fm→W)→W
  | .lit d,fr,k=>k (.ok (.fz d)) fr
  | .gl i,fr,k=>opt q c.glob[i]? fun d=>k (.ok (.fz d)) fr
  | .var i,fr,k=>varK q fr[i]? fr i k
  | .pl p,fr,k=>cnd (plLive fr p) (k (.ok (.pl p)) fr) q.bad
  | .tup es,fr,k=>wpL q c es fr (up k fun rs fr=>opt q (rvVs rs) fun ds=>k (.ok (.fz (.tuple ds))) fr)
  | .list es,fr,k=>wpL q c es fr (up k fun rs fr=>opt q (rvVs rs) fun ds=>k (.ok (.own (.list ds))) fr)
  | .op2 o a b,fr,k=>wp q c a fr (up k fun x fr=>wp q c b fr (up k fun y fr=>opt q (rvD fr x) fun d=>opt q (rvD fr y) fun e=>q.v (op2 o d e) fun r=>rvK q r (k (.ok r) fr)))
  | .neg a,fr,k=>wp q c a fr (up k fun x fr=>opt q (rvV x) fun d=>opt q (negD d) fun e=>k (.ok (.fz e)) fr)
  | .not a,fr,k=>wp q c a fr (up k fun x fr=>opt q (rvD fr x) fun d=>q.t (tD d) fun b=>k (.ok (.fz (.bool (!b)))) fr)
  | .cmp o a b,fr,k=>wp q c a fr (up k fun x fr=>wp q c b fr (up k fun y fr=>opt q (rvD fr x) fun d=>opt q (rvD fr y) fun e=>q.b (cmpD o d e) fun b=>k (.ok (.fz (.bool b))) fr))
  | .and es,fr,k=>wpA q c es fr k
  | .or es,fr,k=>wpO q c es fr k
  | .idx a i,fr,k=>wp q c a fr (up k fun x fr=>wp q c i fr (up k fun y fr=>opt q (rvD fr x) fun d=>opt q (rvV y) fun e=>q.d (idxD d e) fun r=>k (.ok (.fz r)) fr))
  | .slc a lo hi,fr,k=>wp q c a fr (up k fun x fr=>wp q c lo fr (up k fun y fr=>wp q c hi fr (up k fun z fr=>
      opt q (rvD fr x) fun d=>opt q (rvV y) fun l=>opt q (rvV z) fun h=>q.v (slcD d l h) fun r=>rvK q r (k (.ok r) fr))))
  | .call f args,fr,k=>wpL q c args fr (up k fun rs fr=>opt q (argSlots fr rs) fun ss=>cnd (decide (roots rs).Nodup) (q.c (c.call c.hd f ss) fun r outs=>nrm (copyOut fr rs ss outs) fun fr=>
      up k (fun r fr=>opt q (rvV r) fun J=>k (.ok r) fr) r fr) q.bad)
  | .bi b args,fr,k=>cnd (c.hd&&b.loops) q.bad (wpL q c args fr (up k fun rs fr=>opt q (rvDs fr rs) fun ds=>q.v (biD b ds) fun r=>rvK q r (k (.ok r) fr)))
  | .comp elt t it src conds,fr,k=>cnd c.hd q.bad (wpL q c src fr (up k fun rs fr=>opt q (rvVs rs) fun ds=>q.l (iterD it ds) fun items=>
      let k':Except Str (List D)→Fm→W:=fun o fr=>match o with
        | .error _=>q.bad
        | .ok ds=>k (.ok (.own (.list ds))) fr
      q.cp (compB c fr elt t conds items) (compU q (fun d fr k=>opt q (asgT c.pin fr t (.fz d)) fun fr=>nrm fr fun fr=>wpK q c conds fr (up k fun b fr=>cnd b (wp q c elt fr (up k fun r fr=>opt q (rvV r) fun x=>k (.ok (some x)) fr)) (k (.ok none) fr)))
        (fun ds fr=>compB c fr elt t conds ds) (tgtVars t) items fr k') k'))
  | .isx _ _ _,_,_=>q.bad
noncomputable def wpL (q:Q W) (c:Cfg) :List Ex→Fm→(Except Str (List Rv)→Fm→W)→W
  | [],fr,k=>k (.ok []) fr
  | e::es,fr,k=>wp q c e fr (up k fun r fr=>wpL q c es fr (up k fun rs fr=>k (.ok (r::rs)) fr))
noncomputable def wpA (q:Q W) (c:Cfg) :List Ex→Fm→(Except Str Rv→Fm→W)→W
  | [],_,_=>q.bad
  | e::es,fr,k=>wp q c e fr (up k fun r fr=>opt q (rvV r) fun d=>match es with
      | []=>k (.ok r) fr
      | _::_=>q.t (tD d) fun b=>cnd b (wpA q c es fr k) (k (.ok r) fr))
noncomputable def wpO (q:Q W) (c:Cfg) :List Ex→Fm→(Except Str Rv→Fm→W)→W
  | [],_,_=>q.bad
  | e::es,fr,k=>wp q c e fr (up k fun r fr=>opt q (rvV r) fun d=>match es with
      | []=>k (.ok r) fr
      | _::_=>q.t (tD d) fun b=>cnd b (k (.ok r) fr) (wpO q c es fr k))
noncomputable def wpK (q:Q W) (c:Cfg) :List Ex→Fm→(Except Str Bool→Fm→W)→W
  | [],fr,k=>k (.ok true) fr
  | e::es,fr,k=>wp q c e fr (up k fun r fr=>opt q (rvD fr r) fun d=>q.t (tD d) fun b=>cnd b (wpK q c es fr k) (k (.ok false) fr))
end
mutual
noncomputable def wpS (q:Q W) (c:Cfg) :St→Fm→(Except Str Ctl→Fm→W)→W
  | .asg t e,fr,k=>cnd (c.hd&&t.isTup) q.bad (wp q c e fr (up k fun r fr=>opt q (asgT c.pin fr t r) fun fr=>nrm fr fun fr=>k (.ok .next) fr))
  | .setI p i e,fr,k=>wp q c e fr (up k fun r fr=>cnd (plOwn fr p).isSome (wp q c i fr (up k fun x fr=>opt q (rvV r) fun d=>opt q (rvV x) fun x=>opt q (plOwn fr p) fun o=>
      q.d (setD o x d) fun o'=>nrm (plSet fr p o') fun fr=>k (.ok .next) fr)) q.bad)
  | .app p e,fr,k=>cnd (ownL (plOwn fr p)) (wp q c e fr (up k fun r fr=>opt q (rvV r) fun d=>match plOwn fr p with
    | some (.list xs)=>q.t (decide (xs.length<Sz)) fun b=>cnd b (nrm (plSet fr p (.list (xs++[d]))) fun fr=>k (.ok .next) fr) q.bad
    | _=>q.bad)) q.bad
  | .exp e,fr,k=>wp q c e fr (up k fun J fr=>k (.ok .next) fr)
  | .iff t a b,fr,k=>wp q c t fr (up k fun x fr=>opt q (rvD fr x) fun d=>q.t (tD d) fun t=>cnd t (wpSs q c a fr k) (wpSs q c b fr k))
  | .ret e,fr,k=>wp q c e fr (up k fun r fr=>rvK q r (k (.ok (.ret r)) fr))
  | .for_ t it src body tmp,fr,k=>cnd c.hd q.bad (wpL q c src fr (up k fun rs fr=>opt q (rvVs rs) fun ds=>q.l (iterD it ds) fun items=>
      q.lp (forB c fr t body tmp items) (forU q (fun d fr k=>opt q (asgT c.pin fr t (.fz d)) fun fr=>nrm fr fun fr=>wpSs q c body fr k) (fun ds fr=>forB c fr t body tmp ds) tmp items fr k) k))
  | .raise _,_,_=>q.bad
  | .try_ _ _ _ _,_,_=>q.bad
  | .no,_,_=>q.bad
noncomputable def wpSs (q:Q W) (c:Cfg) :List St→Fm→(Except Str Ctl→Fm→W)→W
  | [],fr,k=>k (.ok .next) fr
  | s::ss,fr,k=>wpS q c s fr (up k fun r fr=>match r with
    | .next=>wpSs q c ss fr k
    | .ret r=>k (.ok (.ret r)) fr)
end
noncomputable def wFor (q:Q W) (c:Cfg) (t:Tgt) (body:List St) (tmp:List Nat) (items:List D) (fr:Fm) (k:Except Str Ctl→Fm→W) :W:=
  forU q (fun d fr k=>opt q (asgT c.pin fr t (.fz d)) fun fr=>nrm fr fun fr=>wpSs q c body fr k) (fun ds fr=>forB c fr t body tmp ds) tmp items fr k
noncomputable def wComp (q:Q W) (c:Cfg) (elt:Ex) (t:Tgt) (conds:List Ex) (items:List D) (fr:Fm) (k:Except Str (List D)→Fm→W) :W:=
  compU q (fun d fr k=>opt q (asgT c.pin fr t (.fz d)) fun fr=>nrm fr fun fr=>wpK q c conds fr (up k fun b fr=>cnd b (wp q c elt fr (up k fun r fr=>opt q (rvV r) fun x=>k (.ok (some x)) fr)) (k (.ok none) fr)))
        (fun ds fr=>compB c fr elt t conds ds) (tgtVars t) items fr k
noncomputable def wFn (q:Q W) (P:Pr) (n:Nat) (hd:Bool) (f:Nat) (args:List Slot) (k:Option (Except Str Rv×List Slot)→W) :W:=
  opt q P.fns[f]? fun fn=>cnd (decide (args.length=fn.np)) (nrm (args++List.replicate (fn.nv - fn.np) .no) fun fr=>wpSs q ⟨P.glob,cF P n,pinsOf 0 args,hd⟩ fn.body fr fun o fr=>k (finF args (some (o,fr)))) q.bad
end
inductive It where
  | b (b:Bool) | v (r:Rv) | d (d:D) | l (l:List D)
  | lp (o:Except Str Ctl×Fm) | cp (o:Except Str (List D)×Fm) | c (r:Except Str Rv×List Slot)
noncomputable abbrev Tape:=List (Nat×It)
noncomputable def It.gb:It→Option Bool | .b x=>some x | _=>none
noncomputable def It.gv:It→Option Rv | .v x=>some x | _=>none
noncomputable def It.gd:It→Option D | .d x=>some x | _=>none
noncomputable def It.gl:It→Option (List D) | .l x=>some x | _=>none
noncomputable def It.glp:It→Option (Except Str Ctl×Fm) | .lp x=>some x | _=>none
noncomputable def It.gcp:It→Option (Except Str (List D)×Fm) | .cp x=>some x | _=>none
noncomputable def It.gc:It→Option (Except Str Rv×List Slot) | .c x=>some x | _=>none
noncomputable def ask {α:Type} (g:It→Option α) (x:Option α) (dflt:Tape→Prop) (f:α→Tape→Prop) :Tape→Prop
  | []=>dflt []
  | (n+1,i)::tp=>dflt ((n,i)::tp)
  | (0,i)::tp=>match g i with
    | none=>False
    | some y=>x=some y∧f y tp
noncomputable def just {α:Type} (x:Option α) (f:α→Tape→Prop) :Tape→Prop:=match x with
  | none=>fun J=>False
  | some a=>f a
noncomputable def askT (x:Bool) (f:Bool→Tape→Prop) :Tape→Prop
  | []=>f x []
  | (n+1,i)::tp=>f x ((n,i)::tp)
  | (0,i)::tp=>match i with
    | .b y=>x=y∧f y tp
    | _=>False
noncomputable def qT:Q (Tape→Prop) where
  bad:=fun J=>False
  b x f:=ask It.gb x (just x f) f
  t x f:=askT x f
  v x f:=ask It.gv x (just x f) f
  d x f:=ask It.gd x (just x f) f
  l x f:=ask It.gl x (just x f) f
  lp x u f:=ask It.glp x u fun o=>f o.1 o.2
  cp x u f:=ask It.gcp x u fun o=>f o.1 o.2
  c x f:=ask It.gc x (just x fun o=>f o.1 o.2) fun o=>f o.1 o.2
noncomputable def WGd {α:Type} (m:Out α) (k:Except Str α→Fm→Tape→Prop) :Prop:= ∃o fr tp,m=some (o,fr)∧k o fr tp
theorem WGd.ok {α:Type} {a:α} {fr:Fm} {k:Except Str α→Fm→Tape→Prop} {tp:Tape} (h:k (.ok a) fr tp) :WGd (some (.ok a,fr)) k:=⟨_,_,_,rfl,h⟩
theorem WGd.bind {α β:Type} {m:Out α} {k:Except Str β→Fm→Tape→Prop} {f:α→Fm→Tape→Prop} {g:Kt α β}
    (h:WGd m (up k f)) (H:∀a fr tp,f a fr tp→WGd (g.run a fr) k) :WGd (bnd m) k:=by
  obtain ⟨o,fr,tp,rfl,h⟩:=h
  cases o with
  | error e=>exact ⟨_,_,tp,rfl,h⟩
  | ok a=>exact H a fr tp h
theorem WGd.bind' {α β:Type} {m:Out α} {k:Except Str β→Fm→Tape→Prop} {k':Except Str α→Fm→Tape→Prop} {g:Kt α β}
    (h:WGd m k') (He:∀e fr tp,k' (.error e) fr tp→k (.error e) fr tp) (H:∀a fr tp,k' (.ok a) fr tp→WGd (g.run a fr) k) :WGd (bnd m) k:=by
  obtain ⟨o,fr,tp,rfl,h⟩:=h
  cases o with
  | error e=>exact ⟨_,_,tp,rfl,He _ _ _ h⟩
  | ok a=>exact H a fr tp h
theorem nrm_eq {W:Type} :∀(fr:Fm) (k:Fm→W),nrm fr k=k fr
  | [],_=>rfl
  | s::fr,k=>nrm_eq fr _
theorem oK {α:Type} {x:Option α} {f:α→Tape→Prop} {tp:Tape} (h:opt qT x f tp) :∃a,x=some a∧f a tp:=by
  cases x with
  | none=>exact h.elim
  | some a=>exact ⟨a,rfl,h⟩
theorem just_ok {α:Type} {x:Option α} {f:α→Tape→Prop} {tp:Tape} (h:just x f tp) :∃a tp,x=some a∧f a tp:=by
  cases x with
  | none=>exact h.elim
  | some a=>exact ⟨a,tp,rfl,h⟩
theorem ask_ok {α:Type} {g:It→Option α} {x:Option α} {u:Tape→Prop} {f:α→Tape→Prop} {tp:Tape} (h:ask g x u f tp) :(∃tp,u tp)∨ ∃a tp,x=some a∧f a tp:=by
  match tp,h with
  | [],h=>exact .inl ⟨_,h⟩
  | (n+1,i)::tp,h=>exact .inl ⟨_,h⟩
  | (0,i)::tp,h=>
    have h:(match g i with | none=>False | some y=>x=some y∧f y tp):=h
    cases hg:g i with
    | none=>rw [hg] at h; exact h.elim
    | some y=>rw [hg] at h; exact .inr ⟨y,tp,h⟩
theorem askJ_ok {α:Type} {g:It→Option α} {x:Option α} {f:α→Tape→Prop} {tp:Tape} (h:ask g x (just x f) f tp) :∃a tp,x=some a∧f a tp:=by
  rcases ask_ok h with ⟨tp,h⟩ | h
  · exact just_ok h
  · exact h
theorem askT_ok {x:Bool} {f:Bool→Tape→Prop} {tp:Tape} (h:qT.t x f tp) :∃tp,f x tp:=by
  have h:askT x f tp:=h
  match tp,h with
  | [],h=>exact ⟨_,h⟩
  | (n+1,i)::tp,h=>exact ⟨_,h⟩
  | (0,.b y)::tp,h=>obtain ⟨rfl,h⟩:=h; exact ⟨_,h⟩
  | (0,.v _)::tp,h | (0,.d _)::tp,h | (0,.l _)::tp,h | (0,.lp _)::tp,h | (0,.cp _)::tp,h | (0,.c _)::tp,h=>exact h.elim
theorem rvK_ok {r:Rv} {x:Tape→Prop} {tp:Tape} (h:rvK qT r x tp) :(∀fr,okV fr (some r)=some (.ok r,fr))∧x tp:=by
  cases r with
  | pl p=>exact h.elim
  | fz d=>exact ⟨fun J=>rfl,h⟩
  | own d=>exact ⟨fun J=>rfl,h⟩
theorem cnd_t {b:Bool} {x:Tape→Prop} {tp:Tape} (h:cnd b x qT.bad tp) :b=true∧x tp:=by
  cases b with
  | true=>exact ⟨rfl,h⟩
  | false=>exact h.elim
theorem cnd_f {b:Bool} {x:Tape→Prop} {tp:Tape} (h:cnd b qT.bad x tp) :b=false∧x tp:=by
  cases b with
  | true=>exact h.elim
  | false=>exact ⟨rfl,h⟩
theorem forU_ok {c:Cfg} {t:Tgt} {body:List St} {tmp:List Nat} (H:∀fr k tp,wpSs qT c body fr k tp→WGd (exSs c body fr) k) :∀(items:List D) (fr:Fm) (k:Except Str Ctl→Fm→Tape→Prop) (tp:Tape),
    wFor qT c t body tmp items fr k tp→WGd (forB c fr t body tmp items) k
  | [],fr,k,tp,h=>⟨_,_,tp,rfl,h⟩
  | d::ds,fr,k,tp,h=>by
    rw [forB_cons]
    have h:nrm (clr fr tmp) (fun fr=>opt qT (asgT c.pin fr t (.fz d)) fun fr=>nrm fr fun fr=>wpSs qT c body fr (forK qT (fun fr=>forB c fr t body tmp ds) (fun fr=>wFor qT c t body tmp ds fr k) k)) tp:=h
    rw [nrm_eq] at h
    obtain ⟨fr1,h1,h⟩:=oK h
    rw [nrm_eq] at h
    obtain ⟨o,fr2,tp,h2,h⟩:=H _ _ _ h
    rw [h1]; dsimp only; rw [h2]
    match o,h with
    | .error _,h=>exact h.elim
    | .ok (.ret r),h=>exact ⟨_,_,tp,rfl,h⟩
    | .ok .next,h=>
      rcases ask_ok h with ⟨tp,h⟩ | ⟨o,tp,h3,h⟩
      · exact forU_ok H ds fr2 k tp h
      · exact ⟨o.1,o.2,tp,h3,h⟩
theorem compU_ok {c:Cfg} {elt:Ex} {t:Tgt} {conds:List Ex} (H:∀fr k tp,wp qT c elt fr k tp→WGd (ev c elt fr) k) (H':∀fr k tp,wpK qT c conds fr k tp→WGd (evConds c conds fr) k) :
    ∀(items:List D) (fr:Fm) (k:Except Str (List D)→Fm→Tape→Prop) (tp:Tape),wComp qT c elt t conds items fr k tp→WGd (compB c fr elt t conds items) k
  | [],fr,k,tp,h=>⟨_,_,tp,rfl,h⟩
  | d::ds,fr,k,tp,h=>by
    rw [compB_cons]
    have h:nrm (clr fr (tgtVars t)) (fun fr=>opt qT (asgT c.pin fr t (.fz d)) fun fr=>nrm fr fun fr=>wpK qT c conds fr (up (up k fun r fr=>qT.cp (compB c fr elt t conds ds) (wComp qT c elt t conds ds fr (compR k r)) (compR k r)) fun b fr=>cnd b
      (wp qT c elt fr (up (up k fun r fr=>qT.cp (compB c fr elt t conds ds) (wComp qT c elt t conds ds fr (compR k r)) (compR k r)) fun r fr=>opt qT (rvV r) fun x=>(up k fun r fr=>qT.cp (compB c fr elt t conds ds) (wComp qT c elt t conds ds fr (compR k r)) (compR k r)) (.ok (some x)) fr))
      ((up k fun r fr=>qT.cp (compB c fr elt t conds ds) (wComp qT c elt t conds ds fr (compR k r)) (compR k r)) (.ok none) fr))) tp:=h
    rw [nrm_eq] at h
    obtain ⟨fr1,h1,h⟩:=oK h
    rw [nrm_eq] at h
    rw [h1]; dsimp only
    refine (H' _ _ _ h).bind' (fun J U j2_ h=>h) ?_
    intro b fr tp h
    have rest:∀(fr:Fm) (k:Except Str (List D)→Fm→Tape→Prop) (tp:Tape),qT.cp (compB c fr elt t conds ds) (wComp qT c elt t conds ds fr k) k tp→WGd (compB c fr elt t conds ds) k:=by
      intro fr k tp h
      rcases ask_ok h with ⟨tp,h⟩ | ⟨o,tp,h3,h⟩
      · exact compU_ok H H' ds fr k tp h
      · exact ⟨o.1,o.2,tp,h3,h⟩
    cases b with
    | false=>
      have:=rest _ _ _ h
      obtain ⟨o,fr,tp,h3,h⟩:=this
      refine ⟨o,fr,tp,h3,?_⟩
      cases o with
      | error e=>exact h
      | ok rs=>exact h
    | true=>
      refine (H _ _ _ h).bind' (fun J U j2_ h=>h) ?_
      intro r fr tp h
      obtain ⟨x,h4,h⟩:=oK h
      dsimp only
      rw [h4]
      exact (rest _ _ _ h).bind fun rs fr tp h=>.ok h
set_option maxRecDepth 4000
mutual
theorem wp_ok (c:Cfg) :∀(e:Ex) (fr:Fm) (k:Except Str Rv→Fm→Tape→Prop) (tp:Tape),wp qT c e fr k tp→WGd (ev c e fr) k
  | .lit d,fr,k,tp,h=>by exact .ok h
  | .gl i,fr,k,tp,h=>by
    obtain ⟨d,h1,h⟩:=oK h
    rw [ev_gl,h1]; exact .ok h
  | .var i,fr,k,tp,h=>by
    rw [ev_var]
    have h:varK qT fr[i]? fr i k tp:=h
    revert h
    match fr[i]? with
    | some (.fz d)=>exact fun h=>.ok h
    | some (.own d)=>exact fun h=>by have h:nrm (fr.set i (.fz d)) (fun fr=>k (.ok (.fz d)) fr) tp:=h; rw [nrm_eq] at h; exact .ok h
    | none=>exact fun h=>h.elim
    | some .no=>exact fun h=>h.elim
    | some (.exc _)=>exact fun h=>h.elim
  | .pl p,fr,k,tp,h=>by
    obtain ⟨h1,h⟩:=cnd_t h
    rw [ev_pl,if_pos h1]; exact .ok h
  | .tup es,fr,k,tp,h=>by
    rw [ev_tup]
    refine (wpL_ok c es _ _ _ h).bind fun rs fr tp h=>?_
    obtain ⟨ds,h1,h⟩:=oK h
    dsimp only; rw [h1]; exact .ok h
  | .list es,fr,k,tp,h=>by
    rw [ev_list]
    refine (wpL_ok c es _ _ _ h).bind fun rs fr tp h=>?_
    obtain ⟨ds,h1,h⟩:=oK h
    dsimp only; rw [h1]; exact .ok h
  | .op2 o a b,fr,k,tp,h=>by
    rw [ev_op2]
    refine (wp_ok c a _ _ _ h).bind fun x fr tp h=>(wp_ok c b _ _ _ h).bind fun y fr tp h=>?_
    obtain ⟨d,h1,h⟩:=oK h; obtain ⟨e,h2,h⟩:=oK h; obtain ⟨r,tp,h3,h⟩:=askJ_ok h; obtain ⟨h4,h⟩:=rvK_ok h
    dsimp only; rw [h1,h2]; dsimp only; rw [h3,h4]; exact .ok h
  | .neg a,fr,k,tp,h=>by
    rw [ev_neg]
    refine (wp_ok c a _ _ _ h).bind fun x fr tp h=>?_
    obtain ⟨d,h1,h⟩:=oK h; obtain ⟨e,h2,h⟩:=oK h
    dsimp only; rw [h1]; dsimp only; rw [h2]; exact .ok h
  | .not a,fr,k,tp,h=>by
    rw [ev_not]
    refine (wp_ok c a _ _ _ h).bind fun x fr tp h=>?_
    obtain ⟨d,h1,h⟩:=oK h; obtain ⟨tp,h⟩:=askT_ok h
    dsimp only; rw [h1]; exact .ok h
  | .cmp o a b,fr,k,tp,h=>by
    rw [ev_cmp]
    refine (wp_ok c a _ _ _ h).bind fun x fr tp h=>(wp_ok c b _ _ _ h).bind fun y fr tp h=>?_
    obtain ⟨d,h1,h⟩:=oK h; obtain ⟨e,h2,h⟩:=oK h; obtain ⟨r,tp,h3,h⟩:=askJ_ok h
    dsimp only; rw [h1,h2]; dsimp only; rw [h3]; exact .ok h
  | .and es,fr,k,tp,h=>by rw [ev_and]; exact wpA_ok c es fr k tp h
  | .or es,fr,k,tp,h=>by rw [ev_or]; exact wpO_ok c es fr k tp h
  | .idx a i,fr,k,tp,h=>by
    rw [ev_idx]
    refine (wp_ok c a _ _ _ h).bind fun x fr tp h=>(wp_ok c i _ _ _ h).bind fun y fr tp h=>?_
    obtain ⟨d,h1,h⟩:=oK h; obtain ⟨e,h2,h⟩:=oK h; obtain ⟨r,tp,h3,h⟩:=askJ_ok h
    dsimp only; rw [h1,h2]; dsimp only; rw [h3]; exact .ok h
  | .slc a lo hi,fr,k,tp,h=>by
    rw [ev_slc]
    refine (wp_ok c a _ _ _ h).bind fun x fr tp h=>(wp_ok c lo _ _ _ h).bind fun y fr tp h=>(wp_ok c hi _ _ _ h).bind fun z fr tp h=>?_
    obtain ⟨d,h1,h⟩:=oK h; obtain ⟨e,h2,h⟩:=oK h; obtain ⟨f,h5,h⟩:=oK h; obtain ⟨r,tp,h3,h⟩:=askJ_ok h; obtain ⟨h4,h⟩:=rvK_ok h
    dsimp only; rw [h1,h2,h5]; dsimp only; rw [h3,h4]; exact .ok h
  | .call f args,fr,k,tp,h=>by
    rw [ev_call]
    refine (wpL_ok c args _ _ _ h).bind fun rs fr tp h=>?_
    obtain ⟨ss,h1,h⟩:=oK h; obtain ⟨h2,h⟩:=cnd_t h; obtain ⟨o,tp,h3,h⟩:=askJ_ok h
    rw [nrm_eq] at h
    show WGd (callO c f rs fr) k
    unfold callO
    rw [h1]; dsimp only; rw [if_pos (of_decide_eq_true h2),h3]
    match o,h with
    | (.error e,outs),h=>exact ⟨_,_,tp,rfl,h⟩
    | (.ok r,outs),h=>
      obtain ⟨d,h4,h⟩:=oK h
      dsimp only; rw [h4]; exact .ok h
  | .bi b args,fr,k,tp,h=>by
    rw [ev_bi]
    obtain ⟨h0,h⟩:=cnd_f h
    rw [h0,if_neg (by decide)]
    refine (wpL_ok c args _ _ _ h).bind fun rs fr tp h=>?_
    obtain ⟨ds,h1,h⟩:=oK h; obtain ⟨r,tp,h3,h⟩:=askJ_ok h; obtain ⟨h4,h⟩:=rvK_ok h
    dsimp only; rw [h1]; dsimp only; rw [h3,h4]; exact .ok h
  | .comp elt t it src conds,fr,k,tp,h=>by
    rw [ev_comp]
    obtain ⟨h0,h⟩:=cnd_f h
    rw [h0,if_neg (by decide)]
    refine (wpL_ok c src _ _ _ h).bind fun rs fr tp h=>?_
    obtain ⟨ds,h1,h⟩:=oK h; obtain ⟨items,tp,h3,h⟩:=askJ_ok h
    dsimp only; rw [h1]; dsimp only; rw [h3]; dsimp only
    have:=show WGd (compB c fr elt t conds items) _ from by
      rcases ask_ok h with ⟨tp,h⟩ | ⟨o,tp,h3,h⟩
      · exact compU_ok (wp_ok c elt) (wpK_ok c conds) items fr _ tp h
      · exact ⟨o.1,o.2,tp,h3,h⟩
    obtain ⟨o,fr,tp,h3,h⟩:=this
    rw [h3]
    match o,h with
    | .error _,h=>exact h.elim
    | .ok ds,h=>exact .ok h
  | .isx _ _ _,fr,k,tp,h=>by exact h.elim
theorem wpL_ok (c:Cfg) :∀(es:List Ex) (fr:Fm) (k:Except Str (List Rv)→Fm→Tape→Prop) (tp:Tape),wpL qT c es fr k tp→WGd (evs c es fr) k
  | [],fr,k,tp,h=>by exact .ok h
  | e::es,fr,k,tp,h=>by
    rw [evs_cons]
    exact (wp_ok c e _ _ _ h).bind fun x fr tp h=>(wpL_ok c es _ _ _ h).bind fun y fr tp h=>.ok h
theorem wpA_ok (c:Cfg) :∀(es:List Ex) (fr:Fm) (k:Except Str Rv→Fm→Tape→Prop) (tp:Tape),wpA qT c es fr k tp→WGd (evAnd c es fr) k
  | [],fr,k,tp,h=>by exact h.elim
  | [e],fr,k,tp,h=>by
    rw [evAnd_one]
    refine (wp_ok c e _ _ _ h).bind fun r fr tp h=>?_
    obtain ⟨d,h1,h⟩:=oK h
    dsimp only; rw [h1]; exact .ok h
  | e::e'::es,fr,k,tp,h=>by
    rw [evAnd_cons]
    refine (wp_ok c e _ _ _ h).bind fun r fr tp h=>?_
    obtain ⟨d,h1,h⟩:=oK h; obtain ⟨tp,h⟩:=askT_ok h
    dsimp only; rw [h1]; dsimp only
    cases ht:tD d with
    | true=>rw [ht] at h; rw [if_pos rfl]; exact wpA_ok c (e'::es) _ _ _ h
    | false=>rw [ht] at h; rw [if_neg (by decide)]; exact .ok h
theorem wpO_ok (c:Cfg) :∀(es:List Ex) (fr:Fm) (k:Except Str Rv→Fm→Tape→Prop) (tp:Tape),wpO qT c es fr k tp→WGd (evOr c es fr) k
  | [],fr,k,tp,h=>by exact h.elim
  | [e],fr,k,tp,h=>by
    rw [evOr_one]
    refine (wp_ok c e _ _ _ h).bind fun r fr tp h=>?_
    obtain ⟨d,h1,h⟩:=oK h
    dsimp only; rw [h1]; exact .ok h
  | e::e'::es,fr,k,tp,h=>by
    rw [evOr_cons]
    refine (wp_ok c e _ _ _ h).bind fun r fr tp h=>?_
    obtain ⟨d,h1,h⟩:=oK h; obtain ⟨tp,h⟩:=askT_ok h
    dsimp only; rw [h1]; dsimp only
    cases ht:tD d with
    | true=>rw [ht] at h; rw [if_pos rfl]; exact .ok h
    | false=>rw [ht] at h; rw [if_neg (by decide)]; exact wpO_ok c (e'::es) _ _ _ h
theorem wpK_ok (c:Cfg) :∀(es:List Ex) (fr:Fm) (k:Except Str Bool→Fm→Tape→Prop) (tp:Tape),wpK qT c es fr k tp→WGd (evConds c es fr) k
  | [],fr,k,tp,h=>by exact .ok h
  | e::es,fr,k,tp,h=>by
    rw [evConds_cons]
    refine (wp_ok c e _ _ _ h).bind fun r fr tp h=>?_
    obtain ⟨d,h1,h⟩:=oK h; obtain ⟨tp,h⟩:=askT_ok h
    dsimp only; rw [h1]; dsimp only
    cases ht:tD d with
    | true=>rw [ht] at h; rw [if_pos rfl]; exact wpK_ok c es _ _ _ h
    | false=>rw [ht] at h; rw [if_neg (by decide)]; exact .ok h
end
mutual
theorem wpS_ok (c:Cfg) :∀(s:St) (fr:Fm) (k:Except Str Ctl→Fm→Tape→Prop) (tp:Tape),wpS qT c s fr k tp→WGd (exS c s fr) k
  | .asg t e,fr,k,tp,h=>by
    rw [exS_asg]
    obtain ⟨h0,h⟩:=cnd_f h
    rw [h0,if_neg (by decide)]
    refine (wp_ok c e _ _ _ h).bind fun r fr tp h=>?_
    obtain ⟨fr1,h1,h⟩:=oK h
    rw [nrm_eq] at h
    dsimp only; rw [h1]; exact .ok h
  | .setI p i e,fr,k,tp,h=>by
    rw [exS_setI]
    refine (wp_ok c e _ _ _ h).bind fun r fr tp h=>?_
    obtain ⟨h0,h⟩:=cnd_t h
    dsimp only; rw [if_pos h0]
    refine (wp_ok c i _ _ _ h).bind fun r fr tp h=>?_
    obtain ⟨d,h1,h⟩:=oK h; obtain ⟨x,h2,h⟩:=oK h; obtain ⟨o,h3,h⟩:=oK h; obtain ⟨o',tp,h4,h⟩:=askJ_ok h
    rw [nrm_eq] at h
    dsimp only; rw [h1,h2,h3]; dsimp only; rw [h4]; exact .ok h
  | .app p e,fr,k,tp,h=>by
    rw [exS_app]
    obtain ⟨h0,h⟩:=cnd_t h
    rw [if_pos h0]
    refine (wp_ok c e _ _ _ h).bind fun r fr tp h=>?_
    obtain ⟨d,h1,h⟩:=oK h
    dsimp only; rw [h1]
    revert h
    match plOwn fr p with
    | none=>exact fun h=>h.elim
    | some (.list xs)=>
      intro h
      obtain ⟨tp,h⟩:=askT_ok h; obtain ⟨h2,h⟩:=cnd_t h
      rw [nrm_eq] at h
      dsimp only; rw [if_pos (of_decide_eq_true h2)]; exact .ok h
    | some .none=>exact fun h=>h.elim
    | some (.bool _)=>exact fun h=>h.elim
    | some (.int _)=>exact fun h=>h.elim
    | some (.str _)=>exact fun h=>h.elim
    | some (.tuple _)=>exact fun h=>h.elim
    | some (.dict _)=>exact fun h=>h.elim
  | .exp e,fr,k,tp,h=>by
    rw [exS_exp]
    exact (wp_ok c e _ _ _ h).bind fun r fr tp h=>.ok h
  | .iff t a b,fr,k,tp,h=>by
    rw [exS_iff]
    refine (wp_ok c t _ _ _ h).bind fun x fr tp h=>?_
    obtain ⟨d,h1,h⟩:=oK h; obtain ⟨tp,h⟩:=askT_ok h
    dsimp only; rw [h1]; dsimp only
    cases ht:tD d with
    | true=>rw [ht] at h; rw [if_pos rfl]; exact wpSs_ok c a _ _ _ h
    | false=>rw [ht] at h; rw [if_neg (by decide)]; exact wpSs_ok c b _ _ _ h
  | .ret e,fr,k,tp,h=>by
    rw [exS_ret]
    refine (wp_ok c e _ _ _ h).bind fun r fr tp h=>?_
    cases r with
    | pl p=>exact h.elim
    | fz d=>exact .ok h
    | own d=>exact .ok h
  | .for_ t it src body tmp,fr,k,tp,h=>by
    rw [exS_for]
    obtain ⟨h0,h⟩:=cnd_f h
    rw [h0,if_neg (by decide)]
    refine (wpL_ok c src _ _ _ h).bind fun rs fr tp h=>?_
    obtain ⟨ds,h1,h⟩:=oK h; obtain ⟨items,tp,h3,h⟩:=askJ_ok h
    dsimp only; rw [h1]; dsimp only; rw [h3]; dsimp only
    rcases ask_ok h with ⟨tp,h⟩ | ⟨o,tp,h3,h⟩
    · exact forU_ok (wpSs_ok c body) items fr _ tp h
    · exact ⟨o.1,o.2,tp,h3,h⟩
  | .raise _,fr,k,tp,h=>by exact h.elim
  | .try_ _ _ _ _,fr,k,tp,h=>by exact h.elim
  | .no,fr,k,tp,h=>by exact h.elim
theorem wpSs_ok (c:Cfg) :∀(ss:List St) (fr:Fm) (k:Except Str Ctl→Fm→Tape→Prop) (tp:Tape),wpSs qT c ss fr k tp→WGd (exSs c ss fr) k
  | [],fr,k,tp,h=>by exact .ok h
  | s::ss,fr,k,tp,h=>by
    rw [exSs_cons]
    refine (wpS_ok c s _ _ _ h).bind fun r fr tp h=>?_
    cases r with
    | next=>exact wpSs_ok c ss _ _ _ h
    | ret r=>exact .ok h
end
theorem e_intD (a b:Int) :eqD (.int a) (.int b)=some (decide (a=b)):=by
  rw [e_int]; congr 1
theorem c_eqS (a b:Str) :cmpD .eq (.str a) (.str b)=some (decide (a=b)):=Mv.e_strD a b
theorem c_eqI (a b:Int) :cmpD .eq (.int a) (.int b)=some (decide (a=b)):=e_intD a b
theorem c_eq (a b:D) :cmpD .eq a b=eqD a b:=rfl
theorem c_ne (a b:D) :cmpD .ne a b=(eqD a b).map (!·):=rfl
theorem c_lt (a b:Int) :cmpD .lt (.int a) (.int b)=some (decide (a<b)):=rfl
theorem c_gt (a b:Int) :cmpD .gt (.int a) (.int b)=some (decide (b<a)):=rfl
theorem it_range (n:Int) :iterD .range [.int n]=if -1000000000≤n∧n≤(Sz:Int) then some (rangeL 0 n.toNat) else none:=rfl
structure F where
  n:Nat
  it:It
  A:Prop
  pf:A
noncomputable abbrev F.b (n:Nat) {x:Option Bool} {y:Bool} (h:x=some y) :F:=⟨n,.b y,x=some y,h⟩
noncomputable abbrev F.t (n:Nat) {x y:Bool} (h:x=y) :F:=⟨n,.b y,x=y,h⟩
noncomputable abbrev F.v (n:Nat) {x:Option Rv} {y:Rv} (h:x=some y) :F:=⟨n,.v y,x=some y,h⟩
noncomputable abbrev F.d (n:Nat) {x:Option D} {y:D} (h:x=some y) :F:=⟨n,.d y,x=some y,h⟩
noncomputable abbrev F.l (n:Nat) {x:Option (List D)} {y:List D} (h:x=some y) :F:=⟨n,.l y,x=some y,h⟩
noncomputable abbrev F.lp (n:Nat) {x:Out Ctl} {y:Except Str Ctl×Fm} (h:x=some y) :F:=⟨n,.lp y,x=some y,h⟩
noncomputable abbrev F.cp (n:Nat) {x:Out (List D)} {y:Except Str (List D)×Fm} (h:x=some y) :F:=⟨n,.cp y,x=some y,h⟩
noncomputable abbrev F.c (n:Nat) {x:Option (Except Str Rv×List Slot)} {y:Except Str Rv×List Slot} (h:x=some y) :F:=⟨n,.c y,x=some y,h⟩
noncomputable def tapeOf:List F→Tape
  | []=>[]
  | f::fs=>(f.n,f.it)::tapeOf fs
noncomputable def allA (R:Prop) :List F→Prop
  | []=>R
  | f::fs=>f.A∧allA R fs
theorem allA_ok {R:Prop} (h:R) :∀fs,allA R fs
  | []=>h
  | f::fs=>⟨f.pf,allA_ok h fs⟩
theorem wkF (fs:List F) {P:Pr} {n:Nat} {hd:Bool} {f:Nat} {args:List Slot} {R R':Option (Except Str Rv×List Slot)} (hR:R'=R)
    (h:allA (R'=R) fs=wFn qT P n hd f args (fun r J=>r=R) (tapeOf fs)) :cF P (n+1) hd f args=R:=by
  have h:=Eq.mp h (allA_ok hR fs)
  obtain ⟨fn,h1,h⟩:=oK h; obtain ⟨h2,h⟩:=cnd_t h
  rw [nrm_eq] at h
  obtain ⟨o,fr,tp,h3,h⟩:=wpSs_ok _ _ _ _ _ h
  unfold cF
  rw [h1]; dsimp only; rw [if_pos (of_decide_eq_true h2),h3]
  exact h
theorem wkL (fs:List F) {c:Cfg} {fr:Fm} {t:Tgt} {body:List St} {tmp:List Nat} {items:List D} {R R':Out Ctl} (hR:R'=R)
    (h:allA (R'=R) fs=wFor qT c t body tmp items fr (fun o fr J=>some (o,fr)=R) (tapeOf fs)) :forB c fr t body tmp items=R:=by
  obtain ⟨o,fr,tp,h3,h⟩:=forU_ok (wpSs_ok c body) _ _ _ _ (Eq.mp h (allA_ok hR fs))
  rw [h3,h]
theorem wkC (fs:List F) {c:Cfg} {fr:Fm} {elt:Ex} {t:Tgt} {conds:List Ex} {items:List D} {R R':Out (List D)} (hR:R'=R)
    (h:allA (R'=R) fs=wComp qT c elt t conds items fr (fun o fr J=>some (o,fr)=R) (tapeOf fs)) :compB c fr elt t conds items=R:=by
  obtain ⟨o,fr,tp,h3,h⟩:=compU_ok (wp_ok c elt) (wpK_ok c conds) _ _ _ _ (Eq.mp h (allA_ok hR fs))
  rw [h3,h]
end Mv
end
section
namespace Mv
open PySem PyProof.Rows
section
variable {prog:Program} {w:World} {A:Around} {R:Result→Shared→Prop} {I:Addr} {fp wr:List Addr} {G:Array GenState→Array GenState→Prop} {n:Nat} {P:Nat→Value→Prop} {St:Nat→Shared→Prop}
end
section
variable {prog:Program} {w:World} {A:Around} {E:Value→Shared→Prop} {s:Shared}
end
end Mv
end
section
namespace Mv
open PySem PyProof.Rows
class Hp where
  w:World
variable [Hp]
noncomputable abbrev prog:Program:=Hq.p
noncomputable abbrev w:World:=Hp.w
noncomputable def DictS (h:Heap) (a:Addr) (kvs:List (Str×Value)) :Prop:=(a==sysModules)=false∧h.DictOf (strKind prog w) a kvs
theorem DictS.at' {h h':Heap} {a:Addr} {kvs:List (Str×Value)} (k:∀o,h.get? a=some o→h'.get? a=some o) (x:DictS h a kvs) :DictS h' a kvs:=
  ⟨x.1,let ⟨o,es,ep,ho,r⟩:=x.2; ⟨o,es,ep,k o ho,r⟩⟩
theorem DictS.live {h:Heap} {a:Addr} {kvs:List (Str×Value)} (x:DictS h a kvs) :∃o,h.get? a=some o:=let ⟨o,_,_,ho,_⟩:=x.2; ⟨o,ho⟩
mutual
inductive Rep (h:Heap) (Z:Addr→Prop) :Value→D→Prop
  | none:Rep h Z .none .none
  | bool (b:Bool) :Rep h Z (.bool b) (.bool b)
  | int (i:Int) (t:Tok) :Rep h Z (.int i t) (.int i)
  | str (x:Str) (t:Tok) :PyData.strOk x=true→x.cps.size≤Sz→Rep h Z (.str x t) (.str x)
  | list {a:Addr} {vs:List Value} {n:Nat} {ds:List D} :Z a→IsL h a vs.toArray n→vs.length≤Sz→RepAll h Z vs ds→Rep h Z (.ref a) (.list ds)
  | tuple {a:Addr} {vs:List Value} {n:Nat} {ds:List D} :Z a→IsT h a vs.toArray n→vs.length≤Sz→RepAll h Z vs ds→Rep h Z (.ref a) (.tuple ds)
  | dict {a:Addr} {kvs:List (Str×Value)} {ds:List (D×D)} :Z a→DictS h a kvs→kvs.length≤Sz→RepKV h Z kvs ds→Rep h Z (.ref a) (.dict ds)
inductive RepAll (h:Heap) (Z:Addr→Prop) :List Value→List D→Prop
  | nil:RepAll h Z [] []
  | cons {v:Value} {vs:List Value} {d:D} {ds:List D} :Rep h Z v d→RepAll h Z vs ds→RepAll h Z (v::vs) (d::ds)
inductive RepKV (h:Heap) (Z:Addr→Prop) :List (Str×Value)→List (D×D)→Prop
  | nil:RepKV h Z [] []
  | cons {k:Str} {v:Value} {kvs:List (Str×Value)} {d:D} {ds:List (D×D)} :PyData.strOk k=true→k.cps.size≤Sz→Rep h Z v d→RepKV h Z kvs ds→RepKV h Z ((k,v)::kvs) ((.str k,d)::ds)
end
section
variable {h h':Heap} {Z Z':Addr→Prop}
theorem rep_ind {P1:Value→D→Prop} {P2:List Value→List D→Prop} {P3:List (Str×Value)→List (D×D)→Prop} (h0:P1 .none .none) (hb:∀b,P1 (.bool b) (.bool b)) (hi:∀i t,P1 (.int i t) (.int i))
    (hs:∀(x:Str) t,PyData.strOk x=true→x.cps.size≤Sz→P1 (.str x t) (.str x)) (hl:∀ {a:Addr} {vs:List Value} {n:Nat} {ds:List D},Z a→IsL h a vs.toArray n→vs.length≤Sz→P2 vs ds→P1 (.ref a) (.list ds))
    (ht:∀ {a:Addr} {vs:List Value} {n:Nat} {ds:List D},Z a→IsT h a vs.toArray n→vs.length≤Sz→P2 vs ds→P1 (.ref a) (.tuple ds))
    (hd:∀ {a:Addr} {kvs:List (Str×Value)} {ds:List (D×D)},Z a→DictS h a kvs→kvs.length≤Sz→P3 kvs ds→P1 (.ref a) (.dict ds)) (n2:P2 [] []) (c2:∀ {v:Value} {vs:List Value} {d:D} {ds:List D},P1 v d→P2 vs ds→P2 (v::vs) (d::ds))
    (n3:P3 [] []) (c3:∀ {k:Str} {v:Value} {kvs:List (Str×Value)} {d:D} {ds:List (D×D)},PyData.strOk k=true→k.cps.size≤Sz→P1 v d→P3 kvs ds→P3 ((k,v)::kvs) ((.str k,d)::ds)) :
    (∀ {v:Value} {d:D},Rep h Z v d→P1 v d)∧(∀ {vs:List Value} {ds:List D},RepAll h Z vs ds→P2 vs ds)∧ ∀ {vs:List (Str×Value)} {ds:List (D×D)},RepKV h Z vs ds→P3 vs ds:=
  have c2':∀ {v:Value} {vs:List Value} {d:D} {ds:List D},Rep h Z v d→RepAll h Z vs ds→P1 v d→P2 vs ds→P2 (v::vs) (d::ds):=fun J U a b=>c2 a b
  have hl':∀ {a:Addr} {vs:List Value} {n:Nat} {ds:List D},Z a→IsL h a vs.toArray n→vs.length≤Sz→RepAll h Z vs ds→P2 vs ds→P1 (.ref a) (.list ds):=fun z g l J e=>hl z g l e
  have ht':∀ {a:Addr} {vs:List Value} {n:Nat} {ds:List D},Z a→IsT h a vs.toArray n→vs.length≤Sz→RepAll h Z vs ds→P2 vs ds→P1 (.ref a) (.tuple ds):=fun z g l J e=>ht z g l e
  have hd':∀ {a:Addr} {kvs:List (Str×Value)} {ds:List (D×D)},Z a→DictS h a kvs→kvs.length≤Sz→RepKV h Z kvs ds→P3 kvs ds→P1 (.ref a) (.dict ds):=fun z g l J e=>hd z g l e
  have c3':∀ {k:Str} {v:Value} {kvs:List (Str×Value)} {d:D} {ds:List (D×D)},PyData.strOk k=true→k.cps.size≤Sz→Rep h Z v d→RepKV h Z kvs ds→P1 v d→P3 kvs ds→P3 ((k,v)::kvs) ((.str k,d)::ds):=fun o l J U a b=>c3 o l a b
  ⟨fun r=>Rep.rec (motive_1:=fun v d J=>P1 v d) (motive_2:=fun vs ds J=>P2 vs ds) (motive_3:=fun vs ds J=>P3 vs ds) h0 hb hi hs hl' ht' hd' n2 c2' n3 c3' r,
   fun r=>RepAll.rec (motive_1:=fun v d J=>P1 v d) (motive_2:=fun vs ds J=>P2 vs ds) (motive_3:=fun vs ds J=>P3 vs ds) h0 hb hi hs hl' ht' hd' n2 c2' n3 c3' r,
   fun r=>RepKV.rec (motive_1:=fun v d J=>P1 v d) (motive_2:=fun vs ds J=>P2 vs ds) (motive_3:=fun vs ds J=>P3 vs ds) h0 hb hi hs hl' ht' hd' n2 c2' n3 c3' r⟩
theorem reps_mono (hk:∀a o,Z a→h.get? a=some o→h'.get? a=some o) (hz:∀a,Z a→Z' a) :(∀ {v:Value} {d:D},Rep h Z v d→Rep h' Z' v d)∧(∀ {vs:List Value} {ds:List D},RepAll h Z vs ds→RepAll h' Z' vs ds)∧ ∀ {vs:List (Str×Value)} {ds:List (D×D)},RepKV h Z vs ds→RepKV h' Z' vs ds:=
  rep_ind .none .bool .int .str (fun z g l r=>.list (hz _ z) (hk _ _ z g) l r) (fun z g l r=>.tuple (hz _ z) (hk _ _ z g) l r) (fun z g l r=>.dict (hz _ z) (g.at' fun o=>hk _ o z) l r) .nil .cons .nil .cons
theorem Rep.mono (hk:∀a o,Z a→h.get? a=some o→h'.get? a=some o) (hz:∀a,Z a→Z' a) {v:Value} {d:D} (r:Rep h Z v d) :Rep h' Z' v d:=(reps_mono hk hz).1 r
theorem RepAll.mono (hk:∀a o,Z a→h.get? a=some o→h'.get? a=some o) (hz:∀a,Z a→Z' a) {vs:List Value} {ds:List D} (r:RepAll h Z vs ds) :RepAll h' Z' vs ds:=(reps_mono hk hz).2.1 r
theorem RepKV.mono (hk:∀a o,Z a→h.get? a=some o→h'.get? a=some o) (hz:∀a,Z a→Z' a) {vs:List (Str×Value)} {ds:List (D×D)} (r:RepKV h Z vs ds) :RepKV h' Z' vs ds:=(reps_mono hk hz).2.2 r
theorem RepAll.ind {P:List Value→List D→Prop} (n:P [] []) (c:∀ {v:Value} {vs:List Value} {d:D} {ds:List D},Rep h Z v d→RepAll h Z vs ds→P vs ds→P (v::vs) (d::ds)) :∀ {vs:List Value} {ds:List D},RepAll h Z vs ds→P vs ds
  | [],_,R=>by cases R; exact n
  | v::vs,_,R=>by cases R with | cons a r=>exact c a r (RepAll.ind n c r)
theorem RepKV.ind {P:List (Str×Value)→List (D×D)→Prop} (n:P [] []) (c:∀ {k:Str} {v:Value} {vs:List (Str×Value)} {d:D} {ds:List (D×D)},PyData.strOk k=true→k.cps.size≤Sz→Rep h Z v d→RepKV h Z vs ds→P vs ds→P ((k,v)::vs) ((.str k,d)::ds)) :∀ {vs:List (Str×Value)} {ds:List (D×D)},RepKV h Z vs ds→P vs ds
  | [],_,R=>by cases R; exact n
  | _::vs,_,R=>by cases R with | cons o l a r=>exact c o l a r (RepKV.ind n c r)
theorem RepKV.length {vs:List (Str×Value)} {ds:List (D×D)} (r:RepKV h Z vs ds) :vs.length=ds.length:=RepKV.ind (P:=fun vs ds=>vs.length=ds.length) rfl (fun J U j2_ j3_ e=>congrArg (· + 1) e) r
theorem RepKV.get {vs:List (Str×Value)} {ds:List (D×D)} {k:Str} (r:RepKV h Z vs ds) :(dgetL ds k=none∧valueAt vs k=none)∨ ∃v d,dgetL ds k=some d∧valueAt vs k=some v∧Rep h Z v d:=by
  refine RepKV.ind (P:=fun vs ds=>(dgetL ds k=none∧valueAt vs k=none)∨ ∃v d,dgetL ds k=some d∧valueAt vs k=some v∧Rep h Z v d) (.inl ⟨rfl,rfl⟩) ?_ r
  intro k' v kvs d ds _ _ a _ ih
  by_cases q:k'=k
  · exact .inr ⟨v,d,by show (if k'=k then some d else dgetL ds k)=some d; rw [if_pos q],by unfold valueAt; rw [List.find?_cons,decide_eq_true q]; rfl,a⟩
  · have e:dgetL ((.str k',d)::ds) k=dgetL ds k:=by show (if k'=k then some d else dgetL ds k)=_; rw [if_neg q]
    have e':valueAt ((k',v)::kvs) k=valueAt kvs k:=by unfold valueAt; rw [List.find?_cons,decide_eq_false q]
    rw [e,e']; exact ih
theorem RepKV.setm {k:Str} {v:Value} {d:D} (rv:Rep h Z v d) {vs:List (Str×Value)} {ds:List (D×D)} (r:RepKV h Z vs ds) :RepKV h Z (vs.map fun kv=>if kv.1=k then (kv.1,v) else kv) (dmapL ds k d):=by
  refine RepKV.ind (P:=fun vs ds=>RepKV h Z (vs.map fun kv=>if kv.1=k then (kv.1,v) else kv) (dmapL ds k d)) .nil ?_ r
  intro k' v' kvs d' ds o l a _ ih
  rw [List.map_cons]
  show RepKV h Z _ ((.str k',if k'=k then d else d')::dmapL ds k d)
  by_cases q:k'=k
  · rw [if_pos q,if_pos q]; exact .cons o l rv ih
  · rw [if_neg q,if_neg q]; exact .cons o l a ih
theorem RepKV.has {vs:List (Str×Value)} {ds:List (D×D)} {k:Str} (r:RepKV h Z vs ds) :(vs.any fun kv=>decide (kv.1=k))=(dgetL ds k).isSome:=by
  refine RepKV.ind (P:=fun vs ds=>(vs.any fun kv=>decide (kv.1=k))=(dgetL ds k).isSome) rfl ?_ r
  intro k' v kvs d ds _ _ a _ ih
  rw [List.any_cons]
  show _=(if k'=k then some d else dgetL ds k).isSome
  by_cases q:k'=k
  · rw [if_pos q,decide_eq_true q]; rfl
  · rw [if_neg q,decide_eq_false q,Bool.false_or]; exact ih
theorem RepKV.app {k:Str} {v:Value} {d:D} (o:PyData.strOk k=true) (l:k.cps.size≤Sz) (rv:Rep h Z v d) {vs:List (Str×Value)} {ds:List (D×D)} (r:RepKV h Z vs ds) :RepKV h Z (vs++[(k,v)]) (ds++[(.str k,d)]):=
  RepKV.ind (P:=fun vs ds=>RepKV h Z (vs++[(k,v)]) (ds++[(PyData.str k,d)])) (.cons o l rv .nil) (fun o' l' a J e=>.cons o' l' a e) r
theorem RepKV.set {k:Str} {v:Value} {d:D} {vs:List (Str×Value)} {ds:List (D×D)} (r:RepKV h Z vs ds) (o:PyData.strOk k=true) (l:k.cps.size≤Sz) (rv:Rep h Z v d) :RepKV h Z (stored vs k v) (dsetL ds k d):=by
  unfold stored dsetL
  rw [r.has]
  split
  · exact r.setm rv
  · exact r.app o l rv
theorem dmapL_len (k:Str) (d:D) :∀ds:List (D×D),(dmapL ds k d).length=ds.length
  | []=>rfl
  | (x,y)::r=>by
    have ih:=dmapL_len k d r
    cases x <;> exact congrArg (· + 1) ih
theorem dsetL_len (k:Str) (d:D) (ds:List (D×D)) :(dsetL ds k d).length≤ds.length+1:=by
  unfold dsetL
  split
  · rw [dmapL_len]; exact (lin [ds.length] [] 1 (.nle (.v 0) (.a (.v 0) (.c 1))) [] rfl)
  · simp
theorem reps_reads:(∀ {v:Value} {d:D},Rep h Z v d→noDict d=true→ ∃as,Reads h v d as)∧(∀ {vs:List Value} {ds:List D},RepAll h Z vs ds→noDicts ds=true→ ∃as,ReadsAll h vs ds as)∧ ∀ {vs:List (Str×Value)} {ds:List (D×D)},RepKV h Z vs ds→True:=by
  refine rep_ind (fun J=>⟨_,.none⟩) (fun b J=>⟨_,.bool b⟩) (fun i t J=>⟨_,.int i t⟩) (fun x t J U j2_=>⟨_,.str x t⟩) (fun J g U r e=>?_) (fun J g U r e=>?_) (fun J U j2_ j3_ e=>nomatch e) (fun J=>⟨_,.nil⟩) (fun a r e=>?_) trivial fun J U j2_ j3_=>trivial
  · obtain ⟨_,q⟩:=r e; exact ⟨_,.list g rfl rfl (by simpa using q)⟩
  · obtain ⟨_,q⟩:=r e; exact ⟨_,.tuple g rfl rfl (by simpa using q)⟩
  · obtain ⟨e1,e2⟩:=Bool.and_eq_true_iff.mp e
    obtain ⟨_,p⟩:=a e1; obtain ⟨_,q⟩:=r e2; exact ⟨_,.cons p q⟩
theorem Rep.reads {v:Value} {d:D} (r:Rep h Z v d) (e:noDict d=true) :∃as,Reads h v d as:=reps_reads.1 r e
theorem RepAll.reads {vs:List Value} {ds:List D} (r:RepAll h Z vs ds) (e:noDicts ds=true) :∃as,ReadsAll h vs ds as:=reps_reads.2.1 r e
theorem reps_canLay:(∀ {v:Value} {d:D},Rep h Z v d→noDict d=true→d.canLay0=true)∧(∀ {vs:List Value} {ds:List D},RepAll h Z vs ds→noDicts ds=true→PyData.canLayAll0 ds=true)∧ ∀ {vs:List (Str×Value)} {ds:List (D×D)},RepKV h Z vs ds→True:=by
  refine rep_ind (fun J=>rfl) (fun b J=>rfl) (fun i t J=>rfl) (fun x t o J U=>o) (fun J g U r e=>r e) (fun J g U r e=>r e) (fun J U j2_ j3_ e=>nomatch e) (fun J=>rfl) (fun a r e=>?_) trivial fun J U j2_ j3_=>trivial
  obtain ⟨e1,e2⟩:=Bool.and_eq_true_iff.mp e
  exact Bool.and_eq_true_iff.mpr ⟨a e1,r e2⟩
theorem Rep.canLay {v:Value} {d:D} (r:Rep h Z v d) (e:noDict d=true) :d.canLay0=true:=reps_canLay.1 r e
theorem RepAll.canLay {vs:List Value} {ds:List D} (r:RepAll h Z vs ds) (e:noDicts ds=true) :PyData.canLayAll0 ds=true:=reps_canLay.2.1 r e
theorem RepAll.length {vs:List Value} {ds:List D} (r:RepAll h Z vs ds) :vs.length=ds.length:=RepAll.ind (P:=fun vs ds=>vs.length=ds.length) rfl (fun J U e=>congrArg (· + 1) e) r
theorem RepAll.append {vs ws:List Value} {ds es:List D} (r:RepAll h Z vs ds) (k:RepAll h Z ws es) :RepAll h Z (vs++ws) (ds++es):=RepAll.ind (P:=fun vs ds=>RepAll h Z (vs++ws) (ds++es)) k (fun a J e=>.cons a e) r
theorem RepAll.drop {vs:List Value} {ds:List D} (n:Nat) (r:RepAll h Z vs ds) :RepAll h Z (vs.drop n) (ds.drop n):=
  RepAll.ind (P:=fun vs ds=> ∀n,RepAll h Z (vs.drop n) (ds.drop n)) (fun n=>by cases n <;> exact .nil) (fun a r e n=>by cases n with | zero=>exact .cons a r | succ n=>exact e n) r n
theorem RepAll.take {vs:List Value} {ds:List D} (n:Nat) (r:RepAll h Z vs ds) :RepAll h Z (vs.take n) (ds.take n):=
  RepAll.ind (P:=fun vs ds=> ∀n,RepAll h Z (vs.take n) (ds.take n)) (fun n=>by cases n <;> exact .nil) (fun a r e n=>by cases n with | zero=>exact .nil | succ n=>exact .cons a (e n)) r n
theorem RepAll.get {vs:List Value} {ds:List D} {k:Nat} {d:D} (r:RepAll h Z vs ds) (q:ds[k]? = some d) :∃v,vs[k]? = some v∧Rep h Z v d:=
  RepAll.ind (P:=fun vs ds=> ∀(k:Nat) (d:D),ds[k]? = some d→ ∃v,vs[k]? = some v∧Rep h Z v d) (fun J U e=>nos e) (fun a r ih k d e=>by
    cases k with
    | zero=>obtain rfl:=sos e; exact ⟨_,rfl,a⟩
    | succ k=>exact ih k d e) r k d q
theorem RepAll.getV {vs:List Value} {ds:List D} {k:Nat} {v:Value} (r:RepAll h Z vs ds) (q:vs[k]? = some v) :∃d,ds[k]? = some d∧Rep h Z v d:=
  RepAll.ind (P:=fun vs ds=> ∀(k:Nat) (v:Value),vs[k]? = some v→ ∃d,ds[k]? = some d∧Rep h Z v d) (fun J U e=>nos e) (fun a r ih k d e=>by
    cases k with
    | zero=>obtain rfl:=sos e; exact ⟨_,rfl,a⟩
    | succ k=>exact ih k d e) r k v q
theorem RepAll.set {vs:List Value} {ds:List D} (k:Nat) {v:Value} {d:D} (r:RepAll h Z vs ds) (q:Rep h Z v d) :RepAll h Z (vs.set k v) (ds.set k d):=
  RepAll.ind (P:=fun vs ds=> ∀k,RepAll h Z (vs.set k v) (ds.set k d)) (fun J=>.nil) (fun a r e k=>by cases k with | zero=>exact .cons q r | succ k=>exact .cons a (e k)) r k
theorem RepAll.two {vs:List Value} {da db:D} (R:RepAll h Z vs [da,db]) :∃va vb,vs=[va,vb]∧Rep h Z va da∧Rep h Z vb db:=by
  cases R with
  | cons ra R=>
    cases R with
    | cons rb R=>cases R; exact ⟨_,_,rfl,ra,rb⟩
theorem RepAll.rep {vs:List Value} {ds:List D} (r:RepAll h Z vs ds) :∀n:Nat,RepAll h Z (List.replicate n vs).flatten (List.replicate n ds).flatten
  | 0=>.nil
  | n+1=>by simpa [List.replicate_succ] using RepAll.append r (RepAll.rep r n)
end
inductive OwnAt (h:Heap) (Z:Addr→Prop) (a:Addr) :D→Prop
  | list {vs:List Value} {n:Nat} {ds:List D} :IsL h a vs.toArray n→vs.length≤Sz→RepAll h Z vs ds→OwnAt h Z a (.list ds)
  | dict {kvs:List (Str×Value)} {ds:List (D×D)} :DictS h a kvs→kvs.length≤Sz→RepKV h Z kvs ds→OwnAt h Z a (.dict ds)
theorem OwnAt.mono {h h':Heap} {Z Z':Addr→Prop} {a:Addr} {d:D} (hk:∀a o,Z a→h.get? a=some o→h'.get? a=some o) (hz:∀a,Z a→Z' a) (ha:∀o,h.get? a=some o→h'.get? a=some o) :OwnAt h Z a d→OwnAt h' Z' a d
  | .list g l r=>.list (ha _ g) l (r.mono hk hz)
  | .dict g l r=>.dict (g.at' ha) l (r.mono hk hz)
theorem OwnAt.live {h:Heap} {Z:Addr→Prop} {a:Addr} {d:D} :OwnAt h Z a d→ ∃o,h.get? a=some o
  | .list g _ _=>⟨_,g⟩
  | .dict g _ _=>g.live
theorem OwnAt.rep {h:Heap} {Z Z':Addr→Prop} {a:Addr} {d:D} (x:OwnAt h Z a d) (hz:∀a,Z a→Z' a) (ha:Z' a) :Rep h Z' (.ref a) d:=by
  cases x with
  | list g l r=>exact .list ha g l (r.mono (fun J U j2_ e=>e) hz)
  | dict g l r=>exact .dict ha g l (r.mono (fun J U j2_ e=>e) hz)
end Mv
end
section
namespace Mv
open PySem PyProof.Rows
variable [Hp]
inductive Loc where | dict (a:Addr) (x:Str) | cell (a:Addr)
noncomputable def Loc.addr:Loc→Addr | .dict a _=>a | .cell a=>a
noncomputable def rdL (h:Heap) :Loc→Value→Prop
  | .dict a x,v=> ∃m,h.Ns a m∧m x=some v
  | .cell a,v=>h.IsCell a (some v)
noncomputable def okL (h:Heap) :Loc→Prop
  | .dict a _=> ∃m,h.Ns a m
  | .cell a=> ∃v,h.IsCell a v
structure Lay where
  loc:Nat→Option Loc
  L:Addr
  F:Addr→Prop
structure Lay.Wf (y:Lay) :Prop where
  apart:∀i j l k,y.loc i=some l→y.loc j=some k→i≠j→l.addr=k.addr→ ∃a x z,l = .dict a x∧k = .dict a z∧x≠z
  nf:∀i l,y.loc i=some l→ ¬y.F l.addr
  nL:¬y.F y.L
  cl:∀i a,y.loc i=some (.cell a)→a≠y.L
noncomputable def SlotV (h:Heap) (Z O:Addr→Prop) :Slot→Value→Prop
  | .no,_=>True
  | .fz d,v=>Rep h Z v d
  | .own d,v=> ∃a,v = .ref a∧O a∧OwnAt h Z a d
  | .exc k,v=> ∃a o C m,v = .ref a∧Z a∧h.get? a=some o∧(o.cls = .ref C∧o.dict=none∧ ∃vs,o.data = .fields vs)∧Z mainGlobals∧h.Ns mainGlobals m∧m k=some (.ref C)
noncomputable def NR (o:Obj) :Prop:= ∀vs,o.data≠ .fields vs
noncomputable def Lay.wr (y:Lay) (own:Addr→Option Nat) (a:Addr) :Prop:=own a≠none∨a=y.L∨ ∃i l,y.loc i=some l∧l.addr=a
inductive SlotAt (y:Lay) (h:Heap) (Z Ow:Addr→Prop) (i:Nat) (sl:Slot) :Prop
  | mk (l:Loc) (v:Value) :y.loc i=some l→rdL h l v→SlotV h Z Ow sl v→SlotAt y h Z Ow i sl
structure Inv (B:Heap) (y:Lay) (own:Addr→Option Nat) (Z:Addr→Prop) (h:Heap) (fr:Fm) :Prop where
  wf:y.Wf
  base:∀a o,B.get? a=some o→h.get? a=some o
  zb:∀a o,B.get? a=some o→Z a
  zo:∀a,Z a→own a=none
  zl:∀i l,y.loc i=some l→ ¬Z l.addr
  ol:∀i l,y.loc i=some l→own l.addr=none
  zL:¬Z y.L
  oL:own y.L=none
  zF:∀a,Z a→ ¬y.F a
  oF:∀a,own a≠none→ ¬y.F a
  zlv:∀a,Z a→ ∃o,h.get? a=some o
  olv:∀a,own a≠none→ ∃o,h.get? a=some o
  flv:∀a,y.F a→ ∃o,h.get? a=some o∧NR o
  ok:∀i l,y.loc i=some l→okL h l
  nsL:∃m,h.Ns y.L m
  at':∀i sl,fr[i]? = some sl→sl≠ .no→SlotAt y h Z (fun a=>own a=some i) i sl
structure Ext (W F:Addr→Prop) (h h':Heap) :Prop where
  keep:∀a o,h.get? a=some o→ ¬W a→ ¬F a→h'.get? a=some o
  live:∀a o,h.get? a=some o→ ∃o',h'.get? a=some o'
  fram:∀a o,F a→h.get? a=some o→ ∃sl,h'.get? a=some {o with slots:=sl}
structure Step (y:Lay) (bv:List Nat) (own:Addr→Option Nat) (Z:Addr→Prop) (s:Shared) (own':Addr→Option Nat) (Z':Addr→Prop) (s':Shared) :Prop where
  sh:∃h' tk,s'={s with heap:=h',toks:=tk}
  ext:Ext (y.wr own) y.F s.heap s'.heap
  zm:∀a,Z a→Z' a
  zn:∀a,Z' a→Z a∨own a≠none∨s.heap.get? a=none
  on:∀a i,own' a=some i→own a=some i∨s.heap.get? a=none
  bind:∀i l v,i∉bv→y.loc i=some l→rdL s.heap l v→rdL s'.heap l v
section
variable {B:Heap} {y:Lay} {bv bv':List Nat} {own own' own'':Addr→Option Nat} {Z Z' Z'':Addr→Prop} {s s' s'':Shared} {h h':Heap} {fr fr':Fm}
theorem Ext.refl (W F:Addr→Prop) (h:Heap) :Ext W F h h:=⟨fun J U e j2_ j3_=>e,fun J o e=>⟨o,e⟩,fun J o U e=>⟨o.slots,e⟩⟩
theorem Ext.trans {W W' F:Addr→Prop} {h h' h'':Heap} (x:Ext W F h h') (z:Ext W' F h' h'') (hw:∀a,W' a→W a∨h.get? a=none) :Ext W F h h'' where
  keep:=fun a o e hw' hf=>z.keep a o (x.keep a o e hw' hf) (fun q=>(hw a q).elim hw' fun n=>by rw [n] at e; cases e) hf
  live:=fun a o e=>let ⟨o',e'⟩:=x.live a o e; z.live a o' e'
  fram:=fun a o f e=>let ⟨sl,e'⟩:=x.fram a o f e; let ⟨sl',e''⟩:=z.fram a _ f e'; ⟨sl',e''⟩
theorem Step.refl:Step y bv own Z s own Z s:=⟨⟨_,_,rfl⟩,.refl _ _ _,fun J z=>z,fun J z=>.inl z,fun J U e=>.inl e,fun J U j2_ j3_ j4_ r=>r⟩
theorem wr_mono (x:∀a i,own' a=some i→own a=some i∨h.get? a=none) (a:Addr) (w:y.wr own' a) :y.wr own a∨h.get? a=none:=by
  rcases w with w | w
  · cases e:own' a with
    | none=>exact absurd e w
    | some i=>exact (x a i e).imp (fun q=>.inl (by rw [q]; exact fun n=>by cases n)) id
  · exact .inl (.inr w)
theorem Step.trans (x:Step y bv own Z s own' Z' s') (z:Step y bv own' Z' s' own'' Z'' s'') :Step y bv own Z s own'' Z'' s'' where
  sh:=by obtain ⟨h',tk,rfl⟩:=x.sh; obtain ⟨h'',tk',rfl⟩:=z.sh; exact ⟨_,_,rfl⟩
  ext:=x.ext.trans z.ext (wr_mono x.on)
  zm:=fun a q=>z.zm a (x.zm a q)
  zn:=fun a q=>by
    rcases z.zn a q with q | q | q
    · exact x.zn a q
    · cases e:own' a with
      | none=>exact absurd e q
      | some i=>exact (x.on a i e).elim (fun w=>.inr (.inl (by rw [w]; exact fun n=>by cases n))) fun w=>.inr (.inr w)
    · cases e:s.heap.get? a with
      | none=>exact .inr (.inr rfl)
      | some o=>obtain ⟨o',e'⟩:=x.ext.live a o e; rw [q] at e'; cases e'
  on:=fun a i q=>by
    rcases z.on a i q with q | q
    · exact x.on a i q
    · cases e:s.heap.get? a with
      | none=>exact .inr rfl
      | some o=>obtain ⟨o',e'⟩:=x.ext.live a o e; rw [q] at e'; cases e'
  bind:=fun i l v hb hl r=>z.bind i l v hb hl (x.bind i l v hb hl r)
theorem Step.sub (x:Step y bv own Z s own' Z' s') (hb:∀i,i∈bv→i∈bv') :Step y bv' own Z s own' Z' s':= {x with bind:=fun i l v n hl r=>x.bind i l v (fun q=>n (hb i q)) hl r}
theorem Inv.nwr (I:Inv B y own Z h fr) {a:Addr} (z:Z a) :¬y.wr own a:=by
  rintro (w | w | ⟨i,l,hl,rfl⟩)
  · exact w (I.zo a z)
  · exact I.zL (w▸z)
  · exact I.zl i l hl z
theorem Inv.keepZ (I:Inv B y own Z s.heap fr) (x:Ext (y.wr own) y.F s.heap h') (a:Addr) (o:Obj) (z:Z a) (e:s.heap.get? a=some o) :h'.get? a=some o:=x.keep a o e (I.nwr z) (I.zF a z)
theorem Step.rep (x:Step y bv own Z s own' Z' s') (I:Inv B y own Z s.heap fr) {v:Value} {d:D} (r:Rep s.heap Z v d) :Rep s'.heap Z' v d:=r.mono (I.keepZ x.ext) x.zm
theorem Step.repAll (x:Step y bv own Z s own' Z' s') (I:Inv B y own Z s.heap fr) {vs:List Value} {ds:List D} (r:RepAll s.heap Z vs ds) :RepAll s'.heap Z' vs ds:=r.mono (I.keepZ x.ext) x.zm
noncomputable def RvAt (y:Lay) (own:Addr→Option Nat) (Z:Addr→Prop) (h₀ h:Heap) :Rv→Value→Prop
  | .fz d,v=>Rep h Z v d
  | .own d,v=> ∃a,v = .ref a∧h₀.get? a=none∧ ¬y.wr own a∧ ¬y.F a∧ ¬Z a∧OwnAt h Z a d
  | .pl (.var i),v=> ∃l,y.loc i=some l∧rdL h l v
noncomputable def plVars:Rv→List Nat
  | .pl (.var i)=>[i]
  | _=>[]
theorem Step.rv {h₀:Heap} (x:Step y bv own Z s own' Z' s') (I:Inv B y own Z s.heap fr) {v:Value} {r:Rv} (hb:∀i∈plVars r,i∉bv) (q:RvAt y own Z h₀ s.heap r v) :RvAt y own' Z' h₀ s'.heap r v:=by
  cases r with
  | fz d=>exact x.rep I q
  | own d=>
    obtain ⟨a,rfl,n0,nw,nf,nz,oa⟩:=q
    obtain ⟨o,ho⟩:=oa.live
    refine ⟨a,rfl,n0,fun w=>?_,nf,fun z=>?_,oa.mono (I.keepZ x.ext) x.zm fun o e=>x.ext.keep a o e nw nf⟩
    · rcases wr_mono x.on a w with w | w
      · exact nw w
      · rw [w] at ho; cases ho
    · rcases x.zn a z with z | z | z
      · exact nz z
      · exact nw (.inl z)
      · rw [z] at ho; cases ho
  | pl p=>
    cases p with
    | var i=>obtain ⟨l,hl,r⟩:=q; exact ⟨l,hl,x.bind i l v (hb i (by simp [plVars])) hl r⟩
theorem RvAt.since {h₀ h₁ h:Heap} (k:∀a,h₁.get? a=none→h₀.get? a=none) {v:Value} {r:Rv} (q:RvAt y own Z h₁ h r v) :RvAt y own Z h₀ h r v:=by
  cases r with
  | fz d=>exact q
  | own d=>obtain ⟨a,e,n0,r⟩:=q; exact ⟨a,e,k a n0,r⟩
  | pl p=>cases p <;> exact q
theorem Step.old (x:Step y bv own Z s own' Z' s') (a:Addr) (e:s'.heap.get? a=none) :s.heap.get? a=none:=by
  cases q:s.heap.get? a with
  | none=>rfl
  | some o=>obtain ⟨o',e'⟩:=x.ext.live a o q; rw [e] at e'; cases e'
theorem Step.addZ (x:Step y bv own Z s own' Z' s') {a:Addr} (e:s.heap.get? a=none) :Step y bv own Z s own' (fun b=>Z' b∨b=a) s':=
  {x with
    zm:=fun b z=>.inl (x.zm b z)
    zn:=fun b z=>z.elim (x.zn b) fun q=>.inr (.inr (q▸e))}
end
section
variable {B:Heap} {y:Lay} {bv bv':List Nat} {own own' own'':Addr→Option Nat} {Z Z' Z'':Addr→Prop} {s s' s'':Shared} {h h':Heap} {fr fr':Fm}
theorem SlotV.mono {O O':Addr→Prop} {sl:Slot} {v:Value} (hk:∀a o,Z a→h.get? a=some o→h'.get? a=some o) (hz:∀a,Z a→Z' a) (ho:∀a,O a→O' a) (hko:∀a o,O a→h.get? a=some o→h'.get? a=some o)
    (x:SlotV h Z O sl v) :SlotV h' Z' O' sl v:=by
  cases sl with
  | no=>trivial
  | fz d=>exact Rep.mono hk hz x
  | own d=>obtain ⟨a,rfl,oa,w⟩:=x; exact ⟨a,rfl,ho a oa,w.mono hk hz fun o e=>hko a o oa e⟩
  | exc _=>obtain ⟨a,o,C,m,rfl,za,e,hc,zm,hn,hm⟩:=x; exact ⟨a,o,C,m,rfl,hz a za,hk a o za e,hc,hz _ zm,hn.at' fun o=>hk _ o zm,hm⟩
theorem rdL.keeps {l:Loc} {v:Value} (k:∀o,h.get? l.addr=some o→h'.get? l.addr=some o) (x:rdL h l v) :rdL h' l v:=by
  cases l with
  | dict a z=>obtain ⟨m,hn,e⟩:=x; exact ⟨m,hn.at' k,e⟩
  | cell a=>obtain ⟨o,ho,hd⟩:=x; exact ⟨o,k _ ho,hd⟩
theorem okL.keeps {l:Loc} (k:∀o,h.get? l.addr=some o→h'.get? l.addr=some o) (x:okL h l) :okL h' l:=by
  cases l with
  | dict a z=>obtain ⟨m,hn⟩:=x; exact ⟨m,hn.at' k⟩
  | cell a=>obtain ⟨v,o,ho,hd⟩:=x; exact ⟨v,o,k _ ho,hd⟩
theorem okL.live {l:Loc} (x:okL h l) :∃o,h.get? l.addr=some o:=by
  cases l with
  | dict a z=>obtain ⟨m,o,_,_,ho,_⟩:=x; exact ⟨o,ho⟩
  | cell a=>obtain ⟨v,o,ho,hd⟩:=x; exact ⟨o,ho⟩
theorem Inv.grow (I:Inv B y own Z h fr) (k:∀b o,h.get? b=some o→h'.get? b=some o) :Inv B y own Z h' fr where
  wf:=I.wf
  base:=fun a o e=>k a o (I.base a o e)
  zb:=I.zb
  zo:=I.zo
  zl:=I.zl
  ol:=I.ol
  zL:=I.zL
  oL:=I.oL
  zF:=I.zF
  oF:=I.oF
  zlv:=fun a z=>let ⟨o,e⟩:=I.zlv a z; ⟨o,k a o e⟩
  olv:=fun a z=>let ⟨o,e⟩:=I.olv a z; ⟨o,k a o e⟩
  flv:=fun a z=>let ⟨o,e,q⟩:=I.flv a z; ⟨o,k a o e,q⟩
  ok:=fun i l e=>(I.ok i l e).keeps fun o=>k _ o
  nsL:=let ⟨m,hn⟩:=I.nsL; ⟨m,hn.keeps k⟩
  at':=fun i sl e n=>let ⟨l,v,hl,r,q⟩:=I.at' i sl e n; ⟨l,v,hl,r.keeps fun o=>k _ o,q.mono (fun a o J=>k a o) (fun J z=>z) (fun J z=>z) fun a o J=>k a o⟩
theorem Step.grow {tk:Nat} (k:∀b o,s.heap.get? b=some o→h'.get? b=some o) :Step y bv own Z s own Z {s with heap:=h',toks:=tk} where
  sh:=⟨_,_,rfl⟩
  ext:=⟨fun a o e J U=>k a o e,fun a o e=>⟨o,k a o e⟩,fun a o J e=>⟨o.slots,k a o e⟩⟩
  zm:=fun J z=>z
  zn:=fun J z=>.inl z
  on:=fun J U e=>.inl e
  bind:=fun i l v J U r=>r.keeps fun o=>k _ o
theorem Inv.addZ (I:Inv B y own Z h fr) {a:Addr} {o:Obj} (nw:¬y.wr own a) (nf:¬y.F a) (e:h.get? a=some o) :Inv B y own (fun b=>Z b∨b=a) h fr where
  wf:=I.wf
  base:=I.base
  zb:=fun a o e=>.inl (I.zb a o e)
  zo:=fun b z=>z.elim (I.zo b) fun q=>by
    cases w:own b with
    | none=>rfl
    | some i=>exact absurd (.inl (by rw [← q,w]; exact fun n=>by cases n)) nw
  zl:=fun i l e z=>z.elim (I.zl i l e) fun q=>nw (.inr (.inr ⟨i,l,e,q⟩))
  ol:=I.ol
  zL:=fun z=>z.elim I.zL fun q=>nw (.inr (.inl q.symm))
  oL:=I.oL
  zF:=fun b z=>z.elim (I.zF b) fun q=>q▸nf
  oF:=I.oF
  zlv:=fun b z=>z.elim (I.zlv b) fun q=>⟨o,q▸e⟩
  olv:=I.olv
  flv:=I.flv
  ok:=I.ok
  nsL:=I.nsL
  at':=fun i sl e n=>let ⟨l,v,hl,r,q⟩:=I.at' i sl e n; ⟨l,v,hl,r,q.mono (fun J U j2_ e=>e) (fun J z=>.inl z) (fun J z=>z) fun J U j2_ e=>e⟩
theorem Inv.fresh (I:Inv B y own Z h fr) {a:Addr} (e:h.get? a=none) :¬y.wr own a∧ ¬y.F a∧ ¬Z a:=by
  refine ⟨?_,fun f=>?_,fun z=>?_⟩
  · rintro (w | w | ⟨i,l,hl,rfl⟩)
    · obtain ⟨o,q⟩:=I.olv a w; rw [e] at q; cases q
    · obtain ⟨m,o,_,_,q,_⟩:=I.nsL; rw [← w,e] at q; cases q
    · obtain ⟨o,q⟩:=(I.ok i l hl).live; rw [e] at q; cases q
  · obtain ⟨o,q,_⟩:=I.flv a f; rw [e] at q; cases q
  · obtain ⟨o,q⟩:=I.zlv a z; rw [e] at q; cases q
theorem Step.growZ {tk:Nat} {a:Addr} (k:∀b o,s.heap.get? b=some o→h'.get? b=some o) (e:s.heap.get? a=none) :Step y bv own Z s own (fun b=>Z b∨b=a) {s with heap:=h',toks:=tk} where
  sh:=⟨_,_,rfl⟩
  ext:=⟨fun a o e J U=>k a o e,fun a o e=>⟨o,k a o e⟩,fun a o J e=>⟨o.slots,k a o e⟩⟩
  zm:=fun J z=>.inl z
  zn:=fun b z=>z.elim .inl fun q=>.inr (.inr (q▸e))
  on:=fun J U e=>.inl e
  bind:=fun i l v J U r=>r.keeps fun o=>k _ o
theorem Inv.growZ (I:Inv B y own Z h fr) {a:Addr} {o:Obj} (k:∀b o,h.get? b=some o→h'.get? b=some o) (e:h.get? a=none) (e':h'.get? a=some o) :Inv B y own (fun b=>Z b∨b=a) h' fr:=
  (I.grow k).addZ (I.fresh e).1 (I.fresh e).2.1 e'
end
section
variable {B:Heap} {y:Lay} {bv bv':List Nat} {own own' own'':Addr→Option Nat} {Z Z' Z'':Addr→Prop} {s s' s'':Shared} {h h':Heap} {fr fr':Fm}
set_option tactic.hygienic true in
theorem set_get {fr:Fm} {i j:Nat} {sl sl':Slot} (e:(fr.set i sl)[j]? = some sl') :(j=i∧sl'=sl)∨(j≠i∧fr[j]? = some sl'):=by
  rw [List.getElem?_set] at e
  split at e
  · rename_i q
    split at e
    · exact .inl ⟨q.symm,(Option.some.inj e).symm⟩
    · cases e
  · rename_i q; exact .inr ⟨fun w=>q w.symm,e⟩
theorem Inv.forget (I:Inv B y own Z h fr) (i:Nat) :Inv B y own Z h (fr.set i .no):=
  {I with
    at':=by
      intro j sl e n
      rcases set_get e with ⟨rfl,rfl⟩ | ⟨_,e⟩
      · exact absurd rfl n
      · exact I.at' j sl e n}
theorem Inv.clr (I:Inv B y own Z h fr) :∀l:List Nat,Inv B y own Z h (clr fr l):=by
  intro l
  induction l generalizing fr with
  | nil=>exact I
  | cons i l ih=>exact ih (I.forget i)
noncomputable def dropO (own:Addr→Option Nat) (a:Addr) :Addr→Option Nat:=fun b=>if b=a then none else own b
noncomputable def addO (own:Addr→Option Nat) (a:Addr) (i:Nat) :Addr→Option Nat:=fun b=>if b=a then some i else own b
set_option tactic.hygienic true in
theorem dropO_some {a b:Addr} {j:Nat} (e:dropO own a b=some j) :own b=some j∧b≠a:=by
  unfold dropO at e; split at e
  · cases e
  · rename_i q; exact ⟨e,q⟩
set_option tactic.hygienic true in
theorem dropO_ne {a b:Addr} (e:dropO own a b≠none) :own b≠none∧b≠a:=by
  unfold dropO at e; split at e
  · exact absurd rfl e
  · rename_i q; exact ⟨e,q⟩
inductive FrzAt (B:Heap) (y:Lay) (own:Addr→Option Nat) (Z:Addr→Prop) (h:Heap) (fr:Fm) (i:Nat) (d:D) :Prop
  | mk (l:Loc) (a:Addr) :y.loc i=some l→rdL h l (.ref a)→own a=some i→Rep h (fun b=>Z b∨b=a) (.ref a) d→Inv B y (dropO own a) (fun b=>Z b∨b=a) h (fr.set i (.fz d))→FrzAt B y own Z h fr i d
set_option tactic.hygienic true in
theorem Inv.freeze (I:Inv B y own Z h fr) {i:Nat} {d:D} (hs:fr[i]? = some (.own d)) :
    FrzAt B y own Z h fr i d:=by
  obtain ⟨l,v,hl,hr,a,rfl,oa,w⟩:=I.at' i _ hs (by intro n; cases n)
  have on:own a≠none:=by rw [oa]; exact fun n=>by cases n
  obtain ⟨o,ho⟩:=w.live
  have R:Rep h (fun b=>Z b∨b=a) (.ref a) d:=w.rep (fun J z=>.inl z) (.inr rfl)
  refine ⟨l,a,hl,hr,oa,R,⟨I.wf,I.base,fun b o e=>.inl (I.zb b o e),fun b z=>?_,fun j k e z=>?_,fun j k e=>?_,fun z=>?_,?_,fun b z=>?_,fun b z=>I.oF b (dropO_ne z).1,fun b z=>z.elim (I.zlv b) fun q=>⟨o,q▸ho⟩,fun b z=>I.olv b (dropO_ne z).1,I.flv,I.ok,I.nsL,fun j sl e n=>?_⟩⟩
  · unfold dropO; split
    · rfl
    · exact z.elim (I.zo b) fun q=>absurd q ‹_›
  · exact z.elim (I.zl j k e) fun q=>by have:=I.ol j k e; rw [q,oa] at this; cases this
  · unfold dropO; split
    · rfl
    · exact I.ol j k e
  · exact z.elim I.zL fun q=>by have:=I.oL; rw [q,oa] at this; cases this
  · unfold dropO; split
    · rfl
    · exact I.oL
  · exact z.elim (I.zF b) fun q=>q▸I.oF a on
  · rcases set_get e with ⟨rfl,rfl⟩ | ⟨hne,e⟩
    · exact ⟨l,.ref a,hl,hr,R⟩
    · obtain ⟨k,v,hk,r,q⟩:=I.at' j sl e n
      refine ⟨k,v,hk,r,q.mono (fun J U j2_ e=>e) (fun J z=>.inl z) (fun b z=>?_) fun J U j2_ e=>e⟩
      show dropO own a b=some j
      unfold dropO; split
      · rename_i w'; rw [w',oa] at z; exact absurd (Option.some.inj z).symm hne
      · exact z
theorem Step.freeze {a:Addr} {i:Nat} (oa:own a=some i) :Step y bv own Z s (dropO own a) (fun b=>Z b∨b=a) s where
  sh:=⟨_,_,rfl⟩
  ext:=.refl _ _ _
  zm:=fun J z=>.inl z
  zn:=fun b z=>z.elim .inl fun q=>.inr (.inl (by rw [q,oa]; exact fun n=>by cases n))
  on:=fun b j e=>.inl (dropO_some e).1
  bind:=fun J U j2_ j3_ j4_ r=>r
theorem Inv.chg (I:Inv B y own Z h fr) {i:Nat} {l:Loc} (hl:y.loc i=some l) (hk:∀a o,a≠l.addr→h.get? a=some o→h'.get? a=some o)
    (ho:∀j k w,j≠i→y.loc j=some k→rdL h k w→rdL h' k w) (hok:∀j k,y.loc j=some k→okL h' k) (hns:∃m,h'.Ns y.L m) :Inv B y own Z h' (fr.set i .no):=by
  have kz:∀a o,Z a→h.get? a=some o→h'.get? a=some o:=fun a o z e=>hk a o (fun q=>I.zl i l hl (q▸z)) e
  have ko:∀a o,own a≠none→h.get? a=some o→h'.get? a=some o:=fun a o z e=>hk a o (fun q=>z (q▸I.ol i l hl)) e
  refine ⟨I.wf,fun a o e=>kz a o (I.zb a o e) (I.base a o e),I.zb,I.zo,I.zl,I.ol,I.zL,I.oL,I.zF,I.oF,fun a z=>?_,fun a z=>?_,fun a f=>?_,hok,hns,fun j sl e n=>?_⟩
  · obtain ⟨o,e⟩:=I.zlv a z; exact ⟨o,kz a o z e⟩
  · obtain ⟨o,e⟩:=I.olv a z; exact ⟨o,ko a o z e⟩
  · obtain ⟨o,e,nr⟩:=I.flv a f
    exact ⟨o,hk a o (fun q=>I.wf.nf i l hl (q▸f)) e,nr⟩
  · rcases set_get e with ⟨rfl,rfl⟩ | ⟨hne,e⟩
    · exact absurd rfl n
    · obtain ⟨k,w,hk',r,q⟩:=I.at' j sl e n
      exact ⟨k,w,hk',ho j k w hne hk' r,q.mono kz (fun J z=>z) (fun J z=>z) fun a o z=>ko a o (by rw [z]; exact fun n=>by cases n)⟩
theorem Inv.setSl {i:Nat} {l:Loc} {v:Value} {sl:Slot} (I:Inv B y own Z h' (fr.set i .no)) (hl:y.loc i=some l) (hr:rdL h' l v) (R:SlotV h' Z (fun a=>own a=some i) sl v) :Inv B y own Z h' (fr.set i sl):=by
  refine {I with at':=fun j sl' e n=>?_}
  rcases set_get e with ⟨rfl,rfl⟩ | ⟨hne,e⟩
  · exact ⟨l,v,hl,hr,R⟩
  · exact I.at' j sl' (by rw [List.getElem?_set_ne (Ne.symm hne)]; exact e) n
theorem Inv.setFz (I:Inv B y own Z h fr) {i:Nat} {l:Loc} {v:Value} {d:D} (hl:y.loc i=some l) (hk:∀a o,a≠l.addr→h.get? a=some o→h'.get? a=some o) (hlv:∃o,h'.get? l.addr=some o)
    (hr:rdL h' l v) (ho:∀j k w,j≠i→y.loc j=some k→rdL h k w→rdL h' k w) (hok:∀j k,y.loc j=some k→okL h' k) (hns:∃m,h'.Ns y.L m) (R:Rep h Z v d) :Inv B y own Z h' (fr.set i (.fz d)):=
  (I.chg hl hk ho hok hns).setSl hl hr (show Rep h' Z v d from R.mono (fun a o z e=>hk a o (fun q=>I.zl i l hl (q▸z)) e) fun J z=>z)
theorem addO_self {a:Addr} {i:Nat} :addO own a i a=some i:=by simp [addO]
theorem addO_ne {a b:Addr} {i:Nat} (q:b≠a) :addO own a i b=own b:=by simp [addO,q]
theorem Inv.setOwn (I:Inv B y own Z h fr) {i:Nat} {l:Loc} {a:Addr} {d:D} (hl:y.loc i=some l) (hk:∀a o,a≠l.addr→h.get? a=some o→h'.get? a=some o)
    (hr:rdL h' l (.ref a)) (ho:∀j k w,j≠i→y.loc j=some k→rdL h k w→rdL h' k w) (hok:∀j k,y.loc j=some k→okL h' k) (hns:∃m,h'.Ns y.L m)
    (nw:¬y.wr own a) (nf:¬y.F a) (nz:¬Z a) (w:OwnAt h Z a d) :Inv B y (addO own a i) Z h' (fr.set i (.own d)):=by
  have kz:∀a o,Z a→h.get? a=some o→h'.get? a=some o:=fun a o z e=>hk a o (fun q=>I.zl i l hl (q▸z)) e
  have ko:∀a o,own a≠none→h.get? a=some o→h'.get? a=some o:=fun a o z e=>hk a o (fun q=>z (q▸I.ol i l hl)) e
  have ka:∀o,h.get? a=some o→h'.get? a=some o:=fun o e=>hk a o (fun q=>nw (.inr (.inr ⟨i,l,hl,q.symm⟩))) e
  have na:own a=none:=by
    cases e:own a with
    | none=>rfl
    | some j=>exact absurd (.inl (by rw [e]; exact fun n=>by cases n)) nw
  have nl:∀j k,y.loc j=some k→k.addr≠a:=fun j k e q=>nw (.inr (.inr ⟨j,k,e,q⟩))
  obtain ⟨oa,hoa⟩:=w.live
  refine ⟨I.wf,fun a o e=>kz a o (I.zb a o e) (I.base a o e),I.zb,fun b z=>?_,I.zl,fun j k e=>?_,I.zL,?_,I.zF,fun b z=>?_,fun b z=>?_,fun b z=>?_,fun b f=>?_,hok,hns,fun j sl e n=>?_⟩
  · have q:b≠a:=fun q=>nz (q▸z)
    rw [addO_ne q]; exact I.zo b z
  · rw [addO_ne (nl j k e)]; exact I.ol j k e
  · have q:y.L≠a:=fun q=>nw (.inr (.inl q.symm))
    rw [addO_ne q]; exact I.oL
  · by_cases q:b=a
    · exact q▸nf
    · rw [addO_ne q] at z; exact I.oF b z
  · obtain ⟨o,e⟩:=I.zlv b z; exact ⟨o,kz b o z e⟩
  · by_cases q:b=a
    · exact ⟨oa,q▸ka oa hoa⟩
    · rw [addO_ne q] at z; obtain ⟨o,e⟩:=I.olv b z; exact ⟨o,ko b o z e⟩
  · obtain ⟨o,e,nr⟩:=I.flv b f
    exact ⟨o,hk b o (fun q=>I.wf.nf i l hl (q▸f)) e,nr⟩
  · rcases set_get e with ⟨rfl,rfl⟩ | ⟨hne,e⟩
    · exact ⟨l,.ref a,hl,hr,a,rfl,addO_self,w.mono kz (fun J z=>z) ka⟩
    · obtain ⟨k,w,hk',r,q⟩:=I.at' j sl e n
      refine ⟨k,w,hk',ho j k w hne hk' r,q.mono kz (fun J z=>z) (fun b z=>?_) fun a o z=>ko a o (by rw [z]; exact fun n=>by cases n)⟩
      rw [addO_ne]
      · exact z
      · intro q; rw [q,na] at z; cases z
theorem Inv.setC (I:Inv B y own Z h fr) {i:Nat} {a:Addr} {d d':D} (hs:fr[i]? = some (.own d)) {l:Loc} (hl:y.loc i=some l) (hr:rdL h l (.ref a)) (oa:own a=some i)
    (hk:∀b o,b≠a→h.get? b=some o→h'.get? b=some o) (w:OwnAt h' Z a d') :Inv B y own Z h' (fr.set i (.own d')):=by
  have on:own a≠none:=by rw [oa]; exact fun n=>by cases n
  have kz:∀b o,Z b→h.get? b=some o→h'.get? b=some o:=fun b o z e=>hk b o (fun q=>on (q▸I.zo b z)) e
  have kl:∀j k,y.loc j=some k→ ∀o,h.get? k.addr=some o→h'.get? k.addr=some o:=fun j k e o=>hk _ o fun q=>on (q▸I.ol j k e)
  obtain ⟨oa',hoa⟩:=w.live
  refine ⟨I.wf,fun a o e=>kz a o (I.zb a o e) (I.base a o e),I.zb,I.zo,I.zl,I.ol,I.zL,I.oL,I.zF,I.oF,fun b z=>?_,fun b z=>?_,fun b f=>?_,fun j k e=>(I.ok j k e).keeps (kl j k e),?_,fun j sl e n=>?_⟩
  · obtain ⟨o,e⟩:=I.zlv b z; exact ⟨o,kz b o z e⟩
  · by_cases q:b=a
    · exact ⟨oa',q▸hoa⟩
    · obtain ⟨o,e⟩:=I.olv b z; exact ⟨o,hk b o q e⟩
  · obtain ⟨o,e,nr⟩:=I.flv b f
    exact ⟨o,hk b o (fun q=>I.oF a on (q▸f)) e,nr⟩
  · obtain ⟨m,hn⟩:=I.nsL
    exact ⟨m,hn.at' fun o=>hk _ o fun q=>on (q▸I.oL)⟩
  · rcases set_get e with ⟨rfl,rfl⟩ | ⟨hne,e⟩
    · exact ⟨l,.ref a,hl,hr.keeps (kl _ _ hl),a,rfl,oa,w⟩
    · obtain ⟨k,v,hk',r,q⟩:=I.at' j sl e n
      refine ⟨k,v,hk',r.keeps (kl _ _ hk'),q.mono kz (fun J z=>z) (fun J z=>z) fun b o z e=>hk b o (fun q=>?_) e⟩
      have z':own b=some j:=z
      rw [q,oa] at z'; exact hne (Option.some.inj z').symm
end
end Mv
end
section
namespace Mv
open PySem PyProof.Rows
variable [Hp]
noncomputable def Dat (h:Heap) (Z:Addr→Prop) (v:Value) (d:D) :Prop:=Rep h Z v d∨ ∃a,v = .ref a∧OwnAt h Z a d
section
variable {h h':Heap} {Z Z':Addr→Prop} {v:Value}
theorem Rep.dat {d:D} (r:Rep h Z v d) :Dat h Z v d:=.inl r
theorem Dat.none (r:Dat h Z v .none) :v = .none:=by
  rcases r with r | ⟨a,_,r⟩
  · cases r; rfl
  · cases r
theorem Dat.bool {b:Bool} (r:Dat h Z v (.bool b)) :v = .bool b:=by
  rcases r with r | ⟨a,_,r⟩
  · cases r; rfl
  · cases r
inductive DatI (v:Value) (i:Int) :Prop
  | mk (t:_) :v = .int i t→DatI v i
theorem Dat.int {i:Int} (r:Dat h Z v (.int i)) :DatI v i:=by
  rcases r with r | ⟨a,_,r⟩
  · cases r; exact ⟨_,rfl⟩
  · cases r
inductive DatS (v:Value) (x:Str) :Prop
  | mk (t:_) :v = .str x t→PyData.strOk x=true→x.cps.size≤Sz→DatS v x
theorem Dat.str {x:Str} (r:Dat h Z v (.str x)) :DatS v x:=by
  rcases r with r | ⟨a,_,r⟩
  · cases r; exact ⟨_,rfl, ‹_›, ‹_›⟩
  · cases r
inductive DatL (h:Heap) (Z:Addr→Prop) (v:Value) (ds:List D) :Prop
  | mk (a:Addr) (vs:List Value) (n:Nat) :v = .ref a→IsL h a vs.toArray n→vs.length≤Sz→RepAll h Z vs ds→DatL h Z v ds
theorem Dat.list {ds:List D} (r:Dat h Z v (.list ds)) :DatL h Z v ds:=by
  rcases r with r | ⟨a,rfl,r⟩
  · cases r; exact ⟨_,_,_,rfl, ‹_›, ‹_›, ‹_›⟩
  · cases r; exact ⟨_,_,_,rfl, ‹_›, ‹_›, ‹_›⟩
inductive DatT (h:Heap) (Z:Addr→Prop) (v:Value) (ds:List D) :Prop
  | mk (a:Addr) (vs:List Value) (n:Nat) :v = .ref a→IsT h a vs.toArray n→vs.length≤Sz→RepAll h Z vs ds→Z a→DatT h Z v ds
theorem Dat.tuple {ds:List D} (r:Dat h Z v (.tuple ds)) :DatT h Z v ds:=by
  rcases r with r | ⟨a,rfl,r⟩
  · cases r; exact ⟨_,_,_,rfl, ‹_›, ‹_›, ‹_›, ‹_›⟩
  · cases r
inductive DatK (h:Heap) (Z:Addr→Prop) (v:Value) (ds:List (D×D)) :Prop
  | mk (a:Addr) (kvs:List (Str×Value)) :v = .ref a→DictS h a kvs→kvs.length≤Sz→RepKV h Z kvs ds→DatK h Z v ds
theorem Dat.dict {ds:List (D×D)} (r:Dat h Z v (.dict ds)) :DatK h Z v ds:=by
  rcases r with r | ⟨a,rfl,r⟩
  · cases r; exact ⟨_,_,rfl, ‹_›, ‹_›, ‹_›⟩
  · cases r; exact ⟨_,_,rfl, ‹_›, ‹_›, ‹_›⟩
theorem OwnAt.reads {a:Addr} {d:D} (x:OwnAt h Z a d) (e:noDict d=true) :∃as,Reads h (.ref a) d as:=by
  cases x with
  | list g l r=>obtain ⟨as,q⟩:=r.reads e; exact ⟨_,.list g rfl rfl (by simpa using q)⟩
  | dict g l r=>cases e
theorem Dat.reads {d:D} (r:Dat h Z v d) (e:noDict d=true) :∃as,Reads h v d as:=by
  rcases r with r | ⟨a,rfl,r⟩
  · exact r.reads e
  · exact r.reads e
theorem Dat.canLay {d:D} (r:Dat h Z v d) (e:noDict d=true) :d.canLay0=true:=by
  rcases r with r | ⟨a,rfl,r⟩
  · exact r.canLay e
  · cases r with
    | list g l r=>rw [PyData.canLay0]; exact r.canLay (by simpa [noDict] using e)
    | dict g l r=>cases e
end
theorem RepKV.isSome {h:Heap} {Z:Addr→Prop} {vs:List (Str×Value)} {ds:List (D×D)} {k:Str} (r:RepKV h Z vs ds) :(valueAt vs k).isSome=(dgetL ds k).isSome:=by
  rcases r.get (k:=k) with ⟨h1,h2⟩ | ⟨v,d,h1,h2,_⟩ <;> rw [h1,h2] <;> rfl
inductive ResAt (Z:Addr→Prop) (h h':Heap) :Rv→Value→Prop
  | old {d:D} {v:Value} :Rep h' Z v d→ResAt Z h h' (.fz d) v
  | new {a:Addr} {o:Obj} {d:D} :h.get? a=none→h'.get? a=some o→Rep h' (fun b=>Z b∨b=a) (.ref a) d→ResAt Z h h' (.fz d) (.ref a)
  | own {a:Addr} {d:D} :h.get? a=none→OwnAt h' Z a d→ResAt Z h h' (.own d) (.ref a)
inductive Op (Z:Addr→Prop) (s:Shared) (r:Rv) (v:Value) (s':Shared) :Prop
  | mk (h':Heap) (tk:Nat) :s'={s with heap:=h',toks:=tk}→(∀b o,s.heap.get? b=some o→h'.get? b=some o)→ResAt Z s.heap h' r v→Op Z s r v s'
theorem hN0 (h:Heap) :h.get? h.objs.size=none:=by
  cases q:h.get? h.objs.size with
  | none=>rfl
  | some o=>exact absurd (Heap.lt_size q) (Nat.lt_irrefl _)
theorem pK {h:Heap} (o:Obj) (b:Addr) (x:Obj) (e:h.get? b=some x) :(h.push o).get? b=some x:=Heap.get?_push_of_some o e
section
variable {Z:Addr→Prop} {s:Shared}
theorem Op.val {d:D} {v:Value} (r:Rep s.heap Z v d) :Op Z s (.fz d) v s:=⟨s.heap,s.toks,rfl,fun J U e=>e,.old r⟩
theorem Op.valT {d:D} {v:Value} {tk:Nat} (r:Rep s.heap Z v d) :Op Z s (.fz d) v {s with toks:=tk}:=⟨s.heap,tk,rfl,fun J U e=>e,.old r⟩
theorem Op.bool {b:Bool} :Op Z s (.fz (.bool b)) (.bool b) s:=.val (.bool b)
theorem Op.int {i:Int} {t tk:Nat} :Op Z s (.fz (.int i)) (.int i t) {s with toks:=tk}:=.valT (.int i t)
theorem Op.newL {vs:List Value} {ds:List D} {n:Nat} (r:RepAll s.heap Z vs ds) (hl:vs.length≤Sz) :Op Z s (.own (.list ds)) (.ref s.heap.objs.size) {s with heap:=s.heap.push {cls:=.type "list",data:=.seq vs.toArray n}}:=
  ⟨_,s.toks,rfl,pK _,.own (hN0 _) (.list (Heap.get?_push_size _ rfl) hl (r.mono (fun a o J e=>pK _ a o e) fun J z=>z))⟩
theorem Op.newT {vs:List Value} {ds:List D} {n:Nat} (r:RepAll s.heap Z vs ds) (hl:vs.length≤Sz) :Op Z s (.fz (.tuple ds)) (.ref s.heap.objs.size) {s with heap:=s.heap.push {cls:=.type "tuple",data:=.seq vs.toArray n}}:=
  ⟨_,s.toks,rfl,pK _,.new (hN0 _) (Heap.get?_push_size _ rfl) (.tuple (.inr rfl) (Heap.get?_push_size _ rfl) hl (r.mono (fun a o J e=>pK _ a o e) fun J z=>.inl z))⟩
end
theorem sz_line:Sz=sizeLine:=by decide
section
variable {A:Around} {E:Value→Shared→Prop} {s:Shared} {Z:Addr→Prop} {a b:Value}
set_option tactic.hygienic true in
theorem intBits_le {x:Int} (h:x.natAbs<2 ^ 64) :Builtin.Int.intBits x≤64:=by
  unfold Builtin.Int.intBits
  split
  · exact Nat.zero_le _
  · rename_i q
    have hx:x.natAbs≠0:=by intro e; exact q (by simpa using e)
    exact (Nat.log2_lt hx).mpr h
theorem mulOk_fits {x z:Int} (h:mulOk x z=true) :IntMulOk x z:=by
  rcases Bool.or_eq_true_iff.mp h with h | h
  · exact .of_left (intBits_le (of_decide_eq_true h))
  · exact .of_right (intBits_le (of_decide_eq_true h))
theorem strOk_append {x z:Str} (h:PyData.strOk x=true) (k:PyData.strOk z=true) :PyData.strOk (x++z)=true:=by
  unfold PyData.strOk at *
  show (x.cps++z.cps).all _=true
  rw [Array.all_append,h,k]; rfl
theorem rep_len {α:Type} (n:Int) (xs:List α) :(rep n xs).length=xs.length*n.toNat:=by
  unfold rep; rw [List.length_flatten]; simp [Nat.mul_comm]
theorem txt_foldl (xs:List Nat) (k:Nat) (acc:List Nat) :(List.replicate k xs.toArray).foldl (· ++ ·) acc.toArray=(acc++(List.replicate k xs).flatten).toArray:=by
  induction k generalizing acc with
  | zero=>simp
  | succ k ih=>
    rw [List.replicate_succ,List.foldl_cons,List.append_toArray,ih,List.replicate_succ,List.flatten_cons,List.append_assoc]
set_option tactic.hygienic true in
theorem txt_mul (x:Str) (n:Int) :Txt.mul x n=⟨(rep n x.cps.toList).toArray⟩:=by
  obtain ⟨⟨l⟩⟩:=x
  unfold Txt.mul rep
  split
  · rename_i h
    have e:n.toNat=0:=by omega
    rw [e]; rfl
  · rename_i h
    split
    · rename_i q
      rcases Bool.or_eq_true_iff.mp q with q | q
      · have e:n=1:=by simpa using q
        subst e; simp
      · have e:l=[]:=by simpa [Str.length] using q
        subst e; simp
    · have:=txt_foldl l n.toNat []
      simpa using congrArg Str.mk this
theorem strOk_rep {x:Str} (n:Int) (h:PyData.strOk x=true) :PyData.strOk ⟨(rep n x.cps.toList).toArray⟩=true:=by
  unfold PyData.strOk at *
  rw [← Array.all_toList] at *
  rw [List.all_eq_true] at *
  intro c hc
  have hc':c∈rep n x.cps.toList:=by simpa using hc
  unfold rep at hc'
  obtain ⟨l,hl,hm⟩:=List.mem_flatten.mp hc'
  rw [List.eq_of_mem_replicate hl] at hm
  exact h c hm
set_option tactic.hygienic true in
theorem noPylong {x z:Int} (h:z.natAbs<2 ^ 64) :Builtin.divisionGoesByPylong x z=false:=by
  unfold Builtin.divisionGoesByPylong
  have:(if (z==0)=true then 0 else z.natAbs.log2 / 30+1)≤300:=by
    split
    · exact Nat.zero_le _
    · rename_i q
      have hz:z.natAbs≠0:=by intro e; exact q (by simpa using e)
      have:=(Nat.log2_lt hz).mpr h
      exact (lin [z.natAbs.log2 / (30:Nat),z.natAbs.log2,z.natAbs.log2 % (30:Nat)] [] 30 (.nle (.a (.v 0) (.c 1)) (.c 300)) [(1,.nle (.a (.v 1) (.c 1)) (.c 64)),(1,.neq (.a (.m 30 (.v 0)) (.v 2)) (.v 1))] rfl this (Nat.div_add_mod (z.natAbs.log2) 30))
  simp only
  rw [decide_eq_false (by exact (fun mvo6=>(linF [if (z==(0:Int))=true then (0:Nat) else z.natAbs.log2 / (30:Nat)+(1:Nat)] [] [(1,.nle (.v 0) (.c 300)),(1,.nle (.a (.c 300) (.c 1)) (.v 0))] rfl this mvo6)))]
  rfl
theorem mulI_some {a b:Int} {r:Rv} (h:mulI a b=some r) :mulOk a b=true∧ .fz (.int (a*b))=r:=ifs h
set_option tactic.hygienic true in
theorem op_bin {o:Op2} {op:Operator} {d e:D} {r:Rv} (ho:op=(match o with | .add=>.Add | .sub=>.Sub | .mul=>.Mult | .fdiv=>.FloorDiv | .mod=>.Mod | .pow=>.Pow)) (he:op2 o d e=some r) (ra:Dat s.heap Z a d) (rb:Dat s.heap Z b e) :
    wpAny (model prog w) A (binaryOp op a b) (Op Z s r) E s:=by
  subst ho
  cases o with
  | add=>
    cases d <;> first | exact nos he | (cases e <;> first | exact nos he | skip)
    · obtain ⟨t,rfl⟩:=ra.int; obtain ⟨u,rfl⟩:=rb.int
      obtain rfl:=sos he
      exact add_int .int
    · obtain ⟨t,rfl,o1,z1⟩:=ra.str; obtain ⟨u,rfl,o2,z2⟩:=rb.str
      obtain ⟨hz,rfl⟩:=ifs he
      exact SB.add (fun t' k=>.valT (.str _ t' (strOk_append o1 o2) (by show (_++_:Array Nat).size≤_; rw [Array.size_append]; exact hz))) (by rw [← sz_line]; exact hz)
    · obtain ⟨l,vs,n,rfl,hl,hn,R⟩:=ra.list; obtain ⟨l',vs',n',rfl,hl',hn',R'⟩:=rb.list
      obtain ⟨hz,rfl⟩:=ifs he
      refine P.add_list hl hl' ?_ (by rw [List.size_toArray,List.size_toArray,R.length,R'.length,← sz_line]; exact hz)
      rw [List.append_toArray]
      exact .newL (R.append R') (by rw [List.length_append,R.length,R'.length]; exact hz)
    · obtain ⟨l,vs,n,rfl,hl,hn,R,zl⟩:=ra.tuple; obtain ⟨l',vs',n',rfl,hl',hn',R',zl'⟩:=rb.tuple
      obtain ⟨hz,rfl⟩:=ifs he
      by_cases hv:vs=[]
      · subst hv; cases R
        exact concat_meets ⟨_,hl,rfl⟩ ⟨_,hl',rfl⟩ noFill_tuple_add seq_tuple_add PySem.F.slot_tuple_add PySem.F.entry_tuple_add (PySem.F.args_tuple_add_2 _ _)
          (AutoSeq1.tuple___add___tuple_tuple_0 l _ n l' vs'.toArray n' rfl) ⟨hl,hl',.val (.tuple zl' hl' hn' R')⟩
      · by_cases hw:vs'=[]
        · subst hw; cases R'
          rw [List.append_nil]
          exact concat_meets ⟨_,hl,rfl⟩ ⟨_,hl',rfl⟩ noFill_tuple_add seq_tuple_add PySem.F.slot_tuple_add PySem.F.entry_tuple_add (PySem.F.args_tuple_add_2 _ _)
            (AutoSeq1.tuple___add___tuple_tuple_1 l vs.toArray n l' _ n' (by simpa using hv) rfl) ⟨hl,hl',.val (.tuple zl hl hn R)⟩
        · refine P.add_tuple hl hl' (by simpa using hv) (by simpa using hw) ?_ (by rw [List.size_toArray,List.size_toArray,R.length,R'.length,← sz_line]; exact hz)
          rw [List.append_toArray]
          exact .newT (R.append R') (by rw [List.length_append,R.length,R'.length]; exact hz)
  | sub=>
    cases d <;> first | exact nos he | (cases e <;> first | exact nos he | skip)
    obtain ⟨t,rfl⟩:=ra.int; obtain ⟨u,rfl⟩:=rb.int
    obtain rfl:=sos he
    exact sub_int .int
  | mul=>
    cases d <;> first | exact nos he | (cases e <;> first | exact nos he | skip)
    · obtain ⟨t,rfl⟩:=ra.int; obtain ⟨u,rfl⟩:=rb.int
      obtain ⟨hz,rfl⟩:=mulI_some he
      exact PyProof.Rows.mul_int .int (mulOk_fits hz)
    · obtain ⟨t,rfl,o1,z1⟩:=ra.str; obtain ⟨u,rfl⟩:=rb.int
      rename_i x n
      obtain ⟨hz,rfl⟩:=ifs he
      have hm:¬n<1→((n.toNat:Nat) :Int)=n:=fun q=>Int.toNat_of_nonneg (by exact (lin [] [n] 1 (.le (.c 0) (.v 0)) [(1,.le (.c 1) (.v 0))] rfl (Int.not_lt.mp q)))
      refine SB.mul ⟨by simp; exact ⟨(lin [] [n] 1 (.le (.g (.c 9223372036854775808)) (.v 0)) [(1,.le (.g (.c 1000000000)) (.v 0))] rfl (hz).1),(lin [] [n] 1 (.le (.a (.v 0) (.c 1)) (.c 9223372036854775808)) [(1,.le (.v 0) (.c 1000000000))] rfl ((hz).2).1)⟩,fun q J=>?_,fun q J=>?_⟩ fun t' k=>?_
      · have h2:(x.length:Int)*n≤16777216:=by
          have:((x.cps.size*n.toNat:Nat) :Int)≤((16777216:Nat) :Int):=Int.ofNat_le.mpr hz.2.2
          rw [Int.natCast_mul,hm q] at this; exact this
        have h3:(x.length:Int)≤(2 ^ 63 - 1) / n:=Int.le_ediv_of_mul_le (by exact (lin [] [n] 1 (.le (.a (.c 0) (.c 1)) (.v 0)) [(1,.le (.c 1) (.v 0))] rfl (Int.not_lt.mp q))) (by omega)
        exact (fun mvo20=>(linF [x.length] [((2:Int) ^ (63:Nat) - (1:Int)) / n] [(1,.le (.n (.v 0)) (.v 0)),(1,.le (.a (.v 0) (.c 1)) (.n (.v 0)))] rfl h3 mvo20))
      · unfold Builtin.Str.tooLong
        have h2:x.length*n.toNat≤16777216:=hz.2.2
        rw [show sizeLine=16777216 from rfl]
        simp; exact h2
      · rw [txt_mul]
        exact .valT (.str _ t' (strOk_rep n o1) (by show (rep n x.cps.toList).toArray.size≤_; rw [List.size_toArray,rep_len,Array.length_toList]; exact hz.2.2))
  | fdiv=>
    cases d <;> first | exact nos he | (cases e <;> first | exact nos he | skip)
    obtain ⟨t,rfl⟩:=ra.int; obtain ⟨u,rfl⟩:=rb.int
    obtain ⟨hz,rfl⟩:=ifs he
    exact floordiv_int hz.1 .int (.inl (noPylong hz.2))
  | mod=>
    cases d <;> first | exact nos he | (cases e <;> first | exact nos he | skip)
    obtain ⟨t,rfl⟩:=ra.int; obtain ⟨u,rfl⟩:=rb.int
    obtain ⟨hz,rfl⟩:=ifn he
    exact mod_int hz .int
  | pow=>
    cases d <;> first | exact nos he | (cases e <;> first | exact nos he | skip)
    obtain ⟨t,rfl⟩:=ra.int; obtain ⟨u,rfl⟩:=rb.int
    obtain ⟨hz,rfl⟩:=ifs he
    exact pow_int_small hz.1 (by omega) hz.2.2 .int
theorem str_eqv (x z:Str) :(x==z)=(x.cps.toList==z.cps.toList):=by
  obtain ⟨⟨l⟩⟩:=x; obtain ⟨⟨k⟩⟩:=z
  by_cases q:l=k
  · subst q; simp
  · have h1:((⟨⟨l⟩⟩ :Str)==⟨⟨k⟩⟩)=false:=by
      rw [beq_eq_false_iff_ne]; intro e; apply q; injection e with e; injection e
    rw [h1]; symm; simpa using q
theorem eqD_eqv {d e:D} {b:Bool} (h:eqD d e=some b) :b=PyData.eqv d e∧(noDict d=true∧noDict e=true∧min d.depth e.depth≤64):=by
  have k:∀ {a b:D} {x:Bool},(if eqOk a b then some (PyData.eqv a b) else none)=some x→x=PyData.eqv a b∧(noDict a=true∧noDict b=true∧min a.depth b.depth≤64):=fun q=>by
    obtain ⟨q,rfl⟩:=ifs q
    unfold eqOk at q
    exact ⟨rfl,by simpa [Bool.and_eq_true,and_assoc] using q⟩
  cases d <;> first
    | exact k h
    | (cases e <;> first
      | exact k h
      | (cases h; refine ⟨?_,⟨rfl,rfl,by show _≤64; exact Nat.le_trans (Nat.min_le_left _ _) (by rw [PyData.depth]; decide)⟩⟩; rw [PyData.eqv]; done)
      | (cases h; refine ⟨?_,⟨rfl,rfl,by show _≤64; exact Nat.le_trans (Nat.min_le_left _ _) (by rw [PyData.depth]; decide)⟩⟩; rw [PyData.eqv,str_eqv]; done))
set_option tactic.hygienic true in
theorem anyEq_eqv {x:D} :∀ {ds:List D} {b:Bool},anyEq x ds=some b→b=ds.any (fun y=>PyData.eqv y x)∧noDicts ds=true∧min (PyData.depthAll ds) x.depth≤64
  | [],b,h=>by cases h; simp [noDicts,PyData.depthAll]
  | d::ds,b,h=>by
    unfold anyEq at h
    split at h
    · cases h
    · rename_i c hc
      split at h
      · cases h
      · rename_i c' hc'
        cases h
        obtain ⟨e1,e2,e3,e4⟩:=eqD_eqv hc
        obtain ⟨f1,f2,f3⟩:=anyEq_eqv hc'
        refine ⟨by rw [List.any_cons,e1,f1],by simp [noDicts,e2,f2],?_⟩
        simp only [PyData.depthAll]; exact (Nat.le_total (PyData.depth d) (PyData.depthAll ds)).elim (fun q=>by rw [Nat.max_eq_right q]; exact f3) (fun q=>by rw [Nat.max_eq_left q]; exact e4)
theorem cmp_eq {d e:D} {b':Bool} (he:eqD d e=some b') (ra:Dat s.heap Z a d) (rb:Dat s.heap Z b e) (hu:A.units+64<cLine) :wpAny (model prog w) A (compareOp .Eq a b) (Op Z s (.fz (.bool b'))) E s:=by
  obtain ⟨rfl,h1,h2,h3⟩:=eqD_eqv he
  obtain ⟨as,qa⟩:=ra.reads h1; obtain ⟨bs,qb⟩:=rb.reads h2
  exact SeqAt.compareEq_reads qa qb (ra.canLay h1) (rb.canLay h2) (by exact (lin [A.5,min (PyData.depth d) (PyData.depth e),cLine] [] 1 (.nle (.a (.a (.v 0) (.v 1)) (.c 1)) (.v 2)) [(1,.nle (.a (.a (.v 0) (.c 64)) (.c 1)) (.v 2)),(1,.nle (.v 1) (.c 64))] rfl hu h3)) .bool
theorem cmp_ne {d e:D} {b':Bool} (he:eqD d e=some b') (ra:Dat s.heap Z a d) (rb:Dat s.heap Z b e) (hu:A.units+64<cLine) :wpAny (model prog w) A (compareOp .NotEq a b) (Op Z s (.fz (.bool (!b')))) E s:=by
  obtain ⟨rfl,h1,h2,h3⟩:=eqD_eqv he
  obtain ⟨as,qa⟩:=ra.reads h1; obtain ⟨bs,qb⟩:=rb.reads h2
  exact SeqAt.compareNe_reads qa qb (ra.canLay h1) (rb.canLay h2) (by exact (lin [A.5,min (PyData.depth d) (PyData.depth e),cLine] [] 1 (.nle (.a (.a (.v 0) (.v 1)) (.c 1)) (.v 2)) [(1,.nle (.a (.a (.v 0) (.c 64)) (.c 1)) (.v 2)),(1,.nle (.v 1) (.c 64))] rfl hu h3)) .bool
theorem contains_one (x:Str) (c:Nat) :(!(Builtin.Str.occurrences x ⟨#[c]⟩ 0 x.length 1).isEmpty)=x.cps.toList.contains c:=by
  rw [StrLaws.found_one]
  by_cases q:c∈x.cps.toList
  · rw [decide_eq_true q]; exact (List.contains_iff_mem.mpr q).symm
  · rw [decide_eq_false q]; symm; rw [Bool.eq_false_iff]; exact fun z=>q (List.contains_iff_mem.mp z)
inductive InC:D→D→Bool→Prop
  | list {x:D} {xs:List D} {b:Bool} (h:noDict x=true) (e:anyEq x xs=some b) :InC x (.list xs) b
  | tuple {x:D} {xs:List D} {b:Bool} (h:noDict x=true) (e:anyEq x xs=some b) :InC x (.tuple xs) b
  | str {c:Nat} {z:Str} :InC (.str ⟨#[c]⟩) (.str z) (z.cps.toList.contains c)
  | dict {t:Str} {kvs:List (D×D)} :InC (.str t) (.dict kvs) (dgetL kvs t).isSome
theorem inC {x e:D} {b:Bool} (h:inD x e=some b) :InC x e b:=by
  cases e with
  | list xs=>
    by_cases q:noDict x=true
    · exact .list q ((if_pos q).symm.trans h)
    · exact nos ((if_neg q).symm.trans h)
  | tuple xs=>
    by_cases q:noDict x=true
    · exact .tuple q ((if_pos q).symm.trans h)
    · exact nos ((if_neg q).symm.trans h)
  | str z=>cases x with
    | str t=>
      obtain ⟨⟨l⟩⟩:=t
      cases l with
      | nil=>exact nos h
      | cons c r=>cases r with
        | nil=>exact sos h▸ .str
        | cons=>exact nos h
    | _=>exact nos h
  | dict kvs=>cases x with
    | str t=>exact sos h▸ .dict
    | _=>exact nos h
  | _=>exact nos h
theorem nd_list {xs:List D} (h:noDicts xs=true) :noDict (.list xs)=true:=by rw [noDict]; exact h
theorem nd_tuple {xs:List D} (h:noDicts xs=true) :noDict (.tuple xs)=true:=by rw [noDict]; exact h
theorem cl_list {xs:List D} (h:PyData.canLay0 (.list xs)=true) :PyData.canLayAll0 xs=true:=by rwa [PyData.canLay0] at h
theorem cl_tuple {xs:List D} (h:PyData.canLay0 (.tuple xs)=true) :PyData.canLayAll0 xs=true:=by rwa [PyData.canLay0] at h
theorem in_line {u m:Nat} (hu:u+66<cLine) (h:m≤64) :u+1+m<cLine:=by exact (lin [u,m,cLine] [] 1 (.nle (.a (.a (.a (.v 0) (.c 1)) (.v 1)) (.c 1)) (.v 2)) [(1,.nle (.a (.a (.v 0) (.c 66)) (.c 1)) (.v 2)),(1,.nle (.v 1) (.c 64))] rfl hu h)
theorem cmp_in {d e:D} {b':Bool} (he:inD d e=some b') (ra:Dat s.heap Z a d) (rb:Dat s.heap Z b e) (hu:A.units+66<cLine) :wpAny (model prog w) A (compareOp .In a b) (Op Z s (.fz (.bool b'))) E s:=by
  cases inC he with
  | @list _ xs _ hd h=>
    obtain ⟨rfl,h1,h2⟩:=anyEq_eqv h
    obtain ⟨as,qa⟩:=ra.reads hd; obtain ⟨bs,qb⟩:=rb.reads h1
    exact SeqAt.in_list_reads qb qa (cl_list (rb.canLay (nd_list h1))) (ra.canLay hd) (in_line hu h2) .bool
  | @tuple _ xs _ hd h=>
    obtain ⟨rfl,h1,h2⟩:=anyEq_eqv h
    obtain ⟨as,qa⟩:=ra.reads hd; obtain ⟨bs,qb⟩:=rb.reads h1
    exact SeqAt.in_tuple_reads qb qa (cl_tuple (rb.canLay (nd_tuple h1))) (ra.canLay hd) (in_line hu h2) .bool
  | str=>
    obtain ⟨u,rfl,_,_⟩:=ra.str; obtain ⟨u',rfl,_,_⟩:=rb.str
    exact P.in_str (by rw [contains_one]; exact .bool)
  | dict=>
    obtain ⟨u,rfl,_,_⟩:=ra.str; obtain ⟨l,kv,rfl,hd,hl,R⟩:=rb.dict
    refine wpAny_in_of (knd:=strKind prog w) (strKind_is _ _ _ u) hd.1 hd.2.mapOf ?_
    rw [R.isSome]; exact .valT (.bool _)
theorem keq_hits {db:List (D×D)} {kb:List (Str×Value)} (Rb:RepKV s.heap Z kb db) (hu:A.in1.units+64<cLine) {da:List (D×D)} {ka:List (Str×Value)} {r:Bool} (Ra:RepKV s.heap Z ka da) (h:dhits db da=some r) :PySem.W.KeqHits A.in1 s kb ka r:=by
  refine RepKV.ind (P:=fun ka da=> ∀r,dhits db da=some r→PySem.W.KeqHits A.in1 s kb ka r) (fun r h=>by obtain rfl:=sos h; exact .nil) (fun {k v vs d ds} o l rv R ih r h=>?_) Ra r h
  have h:(match dgetL db k with | none=>some false | some y=>match eqD d y,dhits db ds with | some e,some t=>some (e&&t) | _,_=>none)=some r:=h
  rcases Rb.get (k:=k) with ⟨h1,h2⟩ | ⟨v,y,h1,h2,ry⟩
  · rw [h1] at h; obtain rfl:=sos h; exact .miss h2
  · rw [h1] at h
    have h:(match eqD d y,dhits db ds with | some e,some t=>some (e&&t) | _,_=>none)=some r:=h
    cases he:eqD d y with
    | none=>rw [he] at h; exact nos h
    | some e=>cases ht:dhits db ds with
      | none=>rw [he,ht] at h; exact nos h
      | some t=>
        rw [he,ht] at h
        obtain rfl:=sos h
        obtain ⟨rfl,n1,n2,n3⟩:=eqD_eqv he
        obtain ⟨as,q1⟩:=(Rep.dat rv).reads n1
        obtain ⟨bs,q2⟩:=(Rep.dat ry).reads n2
        exact .hit h2 (SeqAt.eqAt_reads _ _ _ _ _ _ as bs q1 q2 ((Rep.dat rv).canLay n1) ((Rep.dat ry).canLay n2) (by exact (lin [A.5,min (PyData.depth d) (PyData.depth y),cLine] [] 1 (.nle (.a (.a (.a (.v 0) (.c 1)) (.v 1)) (.c 1)) (.v 2)) [(1,.nle (.a (.a (.a (.v 0) (.c 1)) (.c 64)) (.c 1)) (.v 2)),(1,.nle (.v 1) (.c 64))] rfl hu n3))) (ih t ht)
set_option tactic.hygienic true in
theorem cmp_ned {d e:D} {b':Bool} (he:deqD d e=some b') (ra:Dat s.heap Z a d) (rb:Dat s.heap Z b e) (hu:A.units+66<cLine) :wpAny (model prog w) A (compareOp .NotEq a b) (Op Z s (.fz (.bool (!b')))) E s:=by
  cases d <;> first | exact nos he | (cases e <;> first | exact nos he | skip)
  rename_i da db
  obtain ⟨l,ka,rfl,h1,l1,R1⟩:=ra.dict
  obtain ⟨m,kb,rfl,h2,l2,R2⟩:=rb.dict
  have he:(if da.length=db.length then dhits db da else some false)=some b':=he
  have hu1:A.in1.units+64<cLine:=by (have:A.in1.units≤A.units+1:=by simp [Around.in1]); exact (lin [A.5,cLine] [] 1 (.nle (.a (.a (.a (.v 0) (.c 1)) (.c 64)) (.c 1)) (.v 1)) [(1,.nle (.a (.a (.v 0) (.c 66)) (.c 1)) (.v 1))] rfl hu)
  refine PySem.W.keq_ne (knd:=strKind prog w) (r:=b') h1.1 h2.1 h1.2 h2.2 (by exact (lin [A.5,cLine] [] 1 (.nle (.a (.v 0) (.c 1)) (.v 1)) [(1,.nle (.a (.a (.v 0) (.c 66)) (.c 1)) (.v 1))] rfl hu)) (fun q=>keq_hits R2 hu1 R1 ?_) ?_
  · rw [R1.length,R2.length] at q; rw [if_pos q] at he; exact he
  · rw [R1.length,R2.length]
    by_cases q:da.length=db.length
    · rw [q,beq_self_eq_true,Bool.true_and]; exact .bool
    · rw [if_neg q] at he; obtain rfl:=sos he; rw [Bool.and_false]; exact .bool
noncomputable def cmOp:Cm→CmpOp
  | .eq=>.Eq | .ne=>.NotEq | .lt=>.Lt | .gt=>.Gt | .isin=>.In | .ned=>.NotEq
theorem op_cmp {o:Cm} {d e:D} {b':Bool} (he:cmpD o d e=some b') (ra:Dat s.heap Z a d) (rb:Dat s.heap Z b e) (hu:A.units+66<cLine) :
    wpAny (model prog w) A (compareOp (cmOp o) a b) (Op Z s (.fz (.bool b'))) E s:=by
  cases o with
  | eq=>exact cmp_eq he ra rb (by exact (lin [A.5,cLine] [] 1 (.nle (.a (.a (.v 0) (.c 64)) (.c 1)) (.v 1)) [(1,.nle (.a (.a (.v 0) (.c 66)) (.c 1)) (.v 1))] rfl hu))
  | ne=>
    obtain ⟨c,hc,rfl⟩:=Option.map_eq_some_iff.mp he
    exact cmp_ne hc ra rb (by exact (lin [A.5,cLine] [] 1 (.nle (.a (.a (.v 0) (.c 64)) (.c 1)) (.v 1)) [(1,.nle (.a (.a (.v 0) (.c 66)) (.c 1)) (.v 1))] rfl hu))
  | lt=>
    cases d <;> first | exact nos he | (cases e <;> first | exact nos he | skip)
    obtain rfl:=sos he
    obtain ⟨t,rfl⟩:=ra.int; obtain ⟨u,rfl⟩:=rb.int; exact lt_int .bool
  | gt=>
    cases e <;> first | exact nos he | (cases d <;> first | exact nos he | skip)
    obtain rfl:=sos he
    obtain ⟨t,rfl⟩:=ra.int; obtain ⟨u,rfl⟩:=rb.int; exact gt_int .bool
  | isin=>exact cmp_in he ra rb hu
  | ned=>
    obtain ⟨c,hc,rfl⟩:=Option.map_eq_some_iff.mp he
    exact cmp_ned hc ra rb hu
end
end Mv
end
section
namespace Mv
open PySem PyProof.Rows
variable [Hp]
section
variable {A:Around} {E:Value→Shared→Prop} {s:Shared} {Z:Addr→Prop} {a b:Value}
theorem op_truth {d:D} (ra:Dat s.heap Z a d) {Q:Bool→Shared→Prop} (h:∀tk,Q (tD d) {s with toks:=tk}) :wpAny (model prog w) A (truthy a) Q E s:=by
  cases d with
  | none=>obtain rfl:=ra.none; exact fun J U j2_=>h s.toks
  | bool b=>obtain rfl:=ra.bool; exact wpAny_truthy_bool (h s.toks)
  | int i=>obtain ⟨t,rfl⟩:=ra.int; exact PyProof.Rows.truthy_int (h s.toks)
  | str x=>
    obtain ⟨t,rfl,_,hz⟩:=ra.str
    have hz':x.length≤16777216:=hz
    refine P.truthy_str (by exact (fun mvo13=>(linF [x.length] [] [(1,.nle (.v 0) (.c 16777216)),(1,.le (.c 9223372036854775808) (.n (.v 0)))] rfl hz' mvo13))) ?_
    have e:((x.length:Int) != 0)=tD (.str x):=by
      show _=(x.cps.size != 0)
      show ((x.cps.size:Int) != 0)=_
      cases x.cps.size with
      | zero=>rfl
      | succ n=>rfl
    rw [e]; exact h _
  | list ds=>
    obtain ⟨l,vs,n,rfl,hl,hn,R⟩:=ra.list
    refine wpAny_truthy_list hl.isList (by rw [List.size_toArray]; simp only [Sz] at hn; exact (lin [vs.length] [] 1 (.le (.a (.n (.v 0)) (.c 1)) (.c 9223372036854775808)) [(1,.nle (.v 0) (.c 16777216))] rfl hn)) ?_
    have e:(!vs.toArray.isEmpty)=tD (.list ds):=by
      cases R <;> rfl
    rw [e]; exact h _
  | tuple ds=>
    obtain ⟨l,vs,n,rfl,hl,hn,R,_⟩:=ra.tuple
    refine truthy_tuple ⟨_,hl,rfl,_,rfl⟩ (by rw [List.size_toArray]; simp only [Sz] at hn; exact (lin [vs.length] [] 1 (.le (.a (.n (.v 0)) (.c 1)) (.c 9223372036854775808)) [(1,.nle (.v 0) (.c 16777216))] rfl hn)) ?_
    have e:(!vs.toArray.isEmpty)=tD (.tuple ds):=by
      cases R <;> rfl
    rw [e]; exact h _
  | dict kvs=>
    obtain ⟨l,kv,rfl,hd,hn,R⟩:=ra.dict
    refine wpAny_truthy_dict (knd:=strKind prog w) hd.1 hd.2 (by simp only [Sz] at hn; exact (lin [kv.length] [] 1 (.le (.a (.n (.v 0)) (.c 1)) (.c 9223372036854775808)) [(1,.nle (.v 0) (.c 16777216))] rfl hn)) ?_
    have e:(!kv.isEmpty)=tD (.dict kvs):=by cases R <;> rfl
    rw [e]; exact h _
theorem op_not {d:D} (ra:Dat s.heap Z a d) :wpAny (model prog w) A (unaryOp .Not a) (Op Z s (.fz (.bool (!tD d)))) E s:=
  not_of (op_truth ra fun tk=>.valT (.bool _))
theorem op_neg {d e:D} (he:negD d=some e) (ra:Dat s.heap Z a d) :wpAny (model prog w) A (unaryOp .USub a) (Op Z s (.fz e)) E s:=by
  unfold negD at he
  split at he <;> cases he
  obtain ⟨t,rfl⟩:=ra.int
  exact PyProof.Rows.neg_int .int
set_option tactic.hygienic true in
theorem seqIndex_of {α:Type} {xs:List α} {i:Int} {x:α} (h:idxOf xs i=some x) :∃k,seqIndex? i xs.length=some k∧xs[k]? = some x:=by
  unfold idxOf at h
  unfold seqIndex?
  split at h
  · rename_i q
    have hk:=(List.getElem?_eq_some_iff.mp h).1
    refine ⟨i.toNat,?_,h⟩
    have e:(if i<0 then i+(xs.length:Int) else i)=i:=if_neg (by exact (fun mvo9=>(linF [] [i] [(1,.le (.c 0) (.v 0)),(1,.le (.a (.v 0) (.c 1)) (.c 0))] rfl q mvo9)))
    simp only [e]
    rw [if_pos (by simp; exact ⟨q,(lin [xs.length,i.toNat] [i] 1 (.le (.a (.v 0) (.c 1)) (.n (.v 0))) [(1,.nle (.a (.v 1) (.c 1)) (.v 0)),(-1,.eq (.n (.v 1)) (.v 0))] rfl hk (Int.toNat_of_nonneg (a:=i) q))⟩)]
  · split at h
    · rename_i q1 q2
      have hk:=(List.getElem?_eq_some_iff.mp h).1
      refine ⟨(i+xs.length).toNat,?_,h⟩
      have e:(if i<0 then i+(xs.length:Int) else i)=i+xs.length:=if_pos (by exact (Int.not_le.mp q1))
      simp only [e]
      rw [if_pos (by simp; exact ⟨q2,(lin [xs.length] [i] 1 (.le (.a (.a (.v 0) (.n (.v 0))) (.c 1)) (.n (.v 0))) [(1,.le (.a (.v 0) (.c 1)) (.c 0))] rfl (Int.not_le.mp q1))⟩)]
    · cases h
set_option tactic.hygienic true in
theorem idx_bound {α:Type} {xs:List α} {i:Int} {x:α} (h:idxOf xs i=some x) (hz:xs.length≤Sz) : -(2 ^ 63:Int)≤i∧i<2 ^ 63:=by
  unfold idxOf at h
  simp only [Sz] at hz
  split at h
  · rename_i q
    exact ⟨Int.le_trans (by decide) q,Int.lt_trans ((Int.toNat_lt q).mp (Nat.lt_of_lt_of_le (List.getElem?_eq_some_iff.mp h).1 hz)) (by decide)⟩
  · split at h
    · rename_i q1 q2
      have q3:(-16777216:Int)≤i:=by exact (lin [xs.length] [i] 1 (.le (.g (.c 16777216)) (.v 0)) [(1,.nle (.v 0) (.c 16777216)),(1,.le (.c 0) (.a (.v 0) (.n (.v 0))))] rfl hz q2)
      exact ⟨Int.le_trans (by decide) q3,Int.lt_trans (Int.not_le.mp q1) (by decide)⟩
    · cases h
theorem op_getItem {d e r:D} (he:idxD d e=some r) (ra:Dat s.heap Z a d) (rb:Dat s.heap Z b e) :
    ∃T id,s.TypeIs a T∧typeLookup (.type T) "__getitem__" = pure (some (.builtin id))∧wpAny (model prog w) A (getItem a b) (Op Z s (.fz r)) E s:=by
  cases d with
  | list ds=>
    cases e with
    | int i=>
      have he:idxOf ds i=some r:=he
      obtain ⟨l,vs,n,rfl,hl,hn,R⟩:=ra.list; obtain ⟨t,rfl⟩:=rb.int
      refine ⟨_,_,⟨_,hl,rfl⟩,slot_list_getitem.lookup,?_⟩
      have hb:=idx_bound he (by rw [← R.length]; exact hn)
      unfold idxOf at he
      split at he
      · obtain ⟨v,hv,rv⟩:=R.get he
        exact wpAny_getItem_list hl.isList (by assumption) hb.2 (by simpa using hv) (.val rv)
      · split at he
        · obtain ⟨v,hv,rv⟩:=R.get he
          exact wpAny_getItem_list_neg hl.isList (by exact (Int.not_le.mp ‹¬(0:Int)≤i›)) (by rw [List.size_toArray,R.length]; exact (lin [ds.length] [i] 1 (.le (.g (.n (.v 0))) (.v 0)) [(1,.le (.c 0) (.a (.v 0) (.n (.v 0))))] rfl ‹(0:Int)≤i+(↑ds.length:Int)›)) hb.1 (by rw [List.size_toArray,R.length]; simpa using hv) (.val rv)
        · cases he
    | _=>exact nos he
  | tuple ds=>
    cases e with
    | int i=>
      have he:idxOf ds i=some r:=he
      obtain ⟨l,vs,n,rfl,hl,hn,R,zl⟩:=ra.tuple; obtain ⟨t,rfl⟩:=rb.int
      refine ⟨_,_,⟨_,hl,rfl⟩,slot_tuple_getitem.lookup,?_⟩
      have hb:=idx_bound he (by rw [← R.length]; exact hn)
      obtain ⟨k,hk,hx⟩:=seqIndex_of he
      obtain ⟨v,hv,rv⟩:=R.get hx
      exact P.getItem_tuple hl hb.1 hb.2 (by rw [List.size_toArray,R.length]; exact hk) (by simpa using hv) (.val rv)
    | _=>exact nos he
  | str x=>
    cases e with
    | int i=>
      have he:(idxOf x.cps.toList i).map _=some r:=he
      obtain ⟨c,hc,rfl⟩:=Option.map_eq_some_iff.mp he
      obtain ⟨t,rfl,ho,hz⟩:=ra.str; obtain ⟨u,rfl⟩:=rb.int
      have hb:=idx_bound hc (by rw [Array.length_toList]; exact hz)
      obtain ⟨k,hk,hx⟩:=seqIndex_of hc
      have hat:Txt.charAt x i=some c:=by
        unfold Txt.charAt
        rw [show seqIndex? i x.length=some k from by rw [Array.length_toList] at hk; exact hk]
        show x.cps[k]? = some c
        rw [← Array.getElem?_toList]; exact hx
      refine ⟨_,_,rfl,slot_str_getitem.lookup,SB.getItem (by show (!(decide (i < -(2 ^ 63:Int))||decide (i≥2 ^ 63)))=true; simp; exact ⟨((hb).1),((hb).2)⟩) (by rw [hat]; rfl) ?_⟩
      have e:Txt.item x i=⟨#[c]⟩:=by unfold Txt.item; rw [hat]; rfl
      rw [e]
      refine .valT (.str _ _ ?_ (by show 1≤16777216; exact (lin [] [] 1 (.nle (.c 1) (.c 16777216)) [] rfl)))
      unfold PyData.strOk at ho ⊢
      rw [← Array.all_toList,List.all_eq_true] at ho
      have hm:c∈x.cps.toList:=List.mem_of_getElem? hx
      simpa using ho c hm
    | _=>exact nos he
  | dict kvs=>
    cases e with
    | str k=>
      have he:dgetL kvs k=some r:=he
      obtain ⟨l,kv,rfl,hd,hn,R⟩:=ra.dict; obtain ⟨t,rfl,_,_⟩:=rb.str
      rcases R.get (k:=k) with ⟨h1,h2⟩ | ⟨v,d',h1,h2,rv⟩
      · rw [h1] at he; exact nos he
      · rw [h1] at he; obtain rfl:=sos he
        exact ⟨_,_,hd.2.typeIs,slot_dict_getitem.lookup,wpAny_getItem_of (knd:=strKind prog w) (strKind_is _ _ k t) hd.2.mapOf h2 (.valT rv)⟩
    | _=>exact nos he
  | _=>exact nos he
theorem clamp_clip (n:Nat) (i:Int) :clampI n i=clipAt n i:=rfl
theorem lo_part {v:Value} {d:D} {n l:Nat} (r:Dat s.heap Z v d) (h:loOf n d=some l) :∃k:Option Int,IsPart v k∧l=k.elim 0 (clipAt n):=by
  cases d <;> first | exact nos h | obtain rfl:=sos h
  · obtain rfl:=r.none; exact ⟨none,.none,rfl⟩
  · obtain ⟨t,rfl⟩:=r.int; exact ⟨some _,.int _ t,clamp_clip _ _⟩
theorem hi_part {v:Value} {d:D} {n l:Nat} (r:Dat s.heap Z v d) (h:hiOf n d=some l) :∃k:Option Int,IsPart v k∧l=k.elim n (clipAt n):=by
  cases d <;> first | exact nos h | obtain rfl:=sos h
  · obtain rfl:=r.none; exact ⟨none,.none,rfl⟩
  · obtain ⟨t,rfl⟩:=r.int; exact ⟨some _,.int _ t,clamp_clip _ _⟩
theorem part_slice {v:Value} {k:Option Int} {Q:Option Int→Shared→Prop} (p:IsPart v k) (h:Q k s) :wpAny (model prog w) A (Builtin.Slice.slicePartIndex v) Q E s:=by
  cases p with
  | none=>exact slicePart_none h
  | int i t=>exact slicePart_int h
set_option tactic.hygienic true in
theorem adj1 (n:Nat) (i:Int) :(if i<0 then max (i+(n:Int)) 0 else min i (n:Int))=((clipAt n i:Nat) :Int):=by
  rw [clipAt_cast]; split
  · rename_i h; rw [Int.max_comm,Int.min_eq_left (Int.le_trans (Int.add_le_add_right (Int.le_of_lt h) n) (Int.le_of_eq (Int.zero_add _)))]
  · rename_i h; exact (Int.max_eq_right (Int.le_min.mpr ⟨Int.not_lt.mp h,Int.natCast_nonneg n⟩)).symm
theorem adjust_gen (lo hi:Option Int) (n:Nat) :Builtin.Slice.sliceAdjust lo hi 1 (n:Int)=(((lo.elim 0 (clipAt n) :Nat) :Int),((hi.elim n (clipAt n) :Nat) :Int)):=by
  unfold Builtin.Slice.sliceAdjust
  have h1:¬((1:Int)<0):=by exact (fun mvo5=>(linF [] [] [(1,.le (.a (.c 1) (.c 1)) (.c 0))] rfl mvo5))
  simp only [h1,if_false]
  congr 1
  · cases lo with
    | none=>rfl
    | some i=>simp only [Option.elim]; exact adj1 n i
  · cases hi with
    | none=>rfl
    | some i=>simp only [Option.elim]; exact adj1 n i
set_option tactic.hygienic true in
theorem places_gen (a b:Nat) :Builtin.Slice.slicePlaces (a:Int) (b:Int) 1=b - a:=by
  unfold Builtin.Slice.slicePlaces
  have h1:(1:Int) > 0:=by exact (lin [] [] 1 (.le (.a (.c 0) (.c 1)) (.c 1)) [] rfl)
  simp only [h1,if_true,Int.ediv_one]
  split
  · rw [Int.sub_add_cancel]; exact Int.toNat_sub b a
  · rename_i h; exact (Nat.sub_eq_zero_of_le (Int.ofNat_le.mp (Int.not_lt.mp h))).symm
theorem sliceApplied_gen {sl:Addr} {n:Nat} {vl vu:Value} {lo hi:Option Int} {Q:Int×Int×Nat→Shared→Prop} (hs:s.heap.IsSliceOf sl vl vu .none) (pl:IsPart vl lo) (pu:IsPart vu hi)
    (h:Q (((lo.elim 0 (clipAt n) :Nat) :Int),1,hi.elim n (clipAt n) - lo.elim 0 (clipAt n)) s) :wpAny (model prog w) A (Builtin.Slice.sliceApplied (.ref sl) (pure (n:Int))) Q E s:=by
  obtain ⟨os,hos,hcs,hds⟩:=id hs
  unfold Builtin.Slice.sliceApplied Builtin.Slice.sliceFields
  refine wpAny_bind (wpAny_bind (wpAny_field hos hds (x:=vl) rfl (wpAny_bind (wpAny_field hos hds (x:=vu) rfl (wpAny_bind (wpAny_field hos hds (x:=.none) rfl (wpAny_pure ?_)))))))
  refine wpAny_bind (slicePart_none ?_)
  show wpAny _ _ (if ((1:Int)==0)=true then _ else _) _ _ s
  rw [if_neg (by decide)]
  refine wpAny_bind (part_slice pl (wpAny_bind (part_slice pu (wpAny_bind (wpAny_pure ?_)))))
  show wpAny _ _ (match Builtin.Slice.sliceAdjust lo hi 1 (n:Int) with | (lo,hi)=>pure (lo,(1:Int),Builtin.Slice.slicePlaces lo hi 1)) _ _ s
  rw [adjust_gen]
  show wpAny _ _ (pure (_,(1:Int),Builtin.Slice.slicePlaces _ _ 1)) _ _ s
  rw [places_gen]
  exact wpAny_pure h
theorem pick_gen (xs:Array Value) (a k:Nat) :((List.range k).filterMap fun (j:Nat)=>xs[((a:Int)+(j:Int)*1).toNat]?).toArray=((xs.toList.drop a).take k).toArray:=by
  have e:(fun (j:Nat)=>xs[((a:Int)+(j:Int)*1).toNat]?)=fun j=>xs[a+j]?:=by
    funext j
    have:((a:Int)+(j:Int)*1).toNat=a+j:=by rw [Int.mul_one]; rfl
    rw [this]
  rw [e]
  have:=pick_run xs a k
  rw [List.filterMap_map] at this
  exact congrArg List.toArray this
set_option tactic.hygienic true in
theorem getItem_tuple_slice {t sl:Addr} {items:Array Value} {vl vu:Value} {lo hi:Option Int} {Q:Value→Shared→Prop} (ht:IsTup s.heap t items) (hs:s.heap.IsSliceOf sl vl vu .none) (pl:IsPart vl lo) (pu:IsPart vu hi)
    (h0:lo.elim 0 (clipAt items.size)=0→hi.elim items.size (clipAt items.size)=items.size→Q (.ref t) s)
    (h:Q (.ref s.heap.objs.size) {s with heap:=s.heap.push {cls:=.type "tuple",data:=.seq ((items.toList.drop (lo.elim 0 (clipAt items.size))).take (hi.elim items.size (clipAt items.size) - lo.elim 0 (clipAt items.size))).toArray}})
    (hsz:items.size≤sizeLine) :wpAny (model prog w) A (getItem (.ref t) (.ref sl)) Q E s:=by
  have hdrop:sizeOk (.seq ((items.toList.drop (lo.elim 0 (clipAt items.size))).take (hi.elim items.size (clipAt items.size) - lo.elim 0 (clipAt items.size))).toArray):=by
    show _≤sizeLine
    rw [List.size_toArray,List.length_take,List.length_drop,Array.length_toList]
    exact Nat.le_trans (Nat.le_trans (Nat.min_le_right _ _) (Nat.sub_le _ _)) hsz
  obtain ⟨os,hos,hcs,hds⟩:=id hs
  have hTs:s.TypeIs (.ref sl) "slice":=⟨os,hos,hcs⟩
  unfold getItem
  try with_reducible refine wpAny_holding ?_
  first | refine wpAny_bind (wpAny_pure ?_) | skip
  refine wpAny_bind (wpAny_sequenceKey ht.typeIs (by decide) ?_)
  refine wpAny_bind (wpAny_callSpecial?_slot (name:=Str.ofString "__getitem__") ht.typeIs slot_tuple_getitem
    (wpAny_call_entry slot_tuple_getitem ht.typeIs entry_tuple_getitem ?_ (args_tuple_getitem _ _)))
  show wpAny _ _ (Builtin.Tuple.tupleItemsOf (.ref t) >>= _) _ _ s
  refine wpAny_bind (tupleItemsOf_ ht ?_)
  refine wpAny_bind (wpAny_typeOf hTs ?_)
  rw [if_pos (by decide)]
  refine wpAny_bind (sliceApplied_gen hs pl pu ?_)
  generalize hlo:lo.elim 0 (clipAt items.size)=p at *
  generalize hhi:hi.elim items.size (clipAt items.size)=q at *
  show wpAny _ _ (if ((p:Int)==0&&(1:Int)==1&&(q - p)==items.size)=true then _ else _) _ _ s
  split
  · rename_i hc
    simp only [Bool.and_eq_true,beq_iff_eq] at hc
    have hp:p=0:=by exact (Nat.le_antisymm (lin [p] [] 1 (.nle (.v 0) (.c 0)) [(1,.eq (.n (.v 0)) (.c 0))] rfl ((hc).1).1) (lin [p] [] 1 (.nle (.c 0) (.v 0)) [(-1,.eq (.n (.v 0)) (.c 0))] rfl ((hc).1).1))
    have hq:q=items.size:=by exact (Nat.le_antisymm (lin [q,items.size,p,q - p] [] 1 (.nle (.v 0) (.v 1)) [(1,.eq (.n (.v 2)) (.c 0)),(1,.neq (.v 3) (.v 1)),(-1,.neq (.a (.v 3) (.v 2)) (.v 0))] rfl ((hc).1).1 (hc).2 (Nat.sub_add_cancel (n:=q) (m:=p) (lin [p,q,q - p] [] 1 (.nle (.v 0) (.v 1)) [(1,.neq (.a (.v 2) (.v 0)) (.v 1))] rfl (Nat.sub_add_cancel (n:=q) (m:=p) (lin [p,q] [] 1 (.nle (.v 0) (.v 1)) [(1,.eq (.n (.v 0)) (.c 0))] rfl ((hc).1).1))))) (lin [items.size,q,p,q - p] [] 1 (.nle (.v 0) (.v 1)) [(-1,.eq (.n (.v 2)) (.c 0)),(-1,.neq (.v 3) (.v 0)),(1,.neq (.a (.v 3) (.v 2)) (.v 1))] rfl ((hc).1).1 (hc).2 (Nat.sub_add_cancel (n:=q) (m:=p) (lin [p,q,q - p] [] 1 (.nle (.v 0) (.v 1)) [(1,.neq (.a (.v 2) (.v 0)) (.v 1))] rfl (Nat.sub_add_cancel (n:=q) (m:=p) (lin [p,q] [] 1 (.nle (.v 0) (.v 1)) [(1,.eq (.n (.v 0)) (.c 0))] rfl ((hc).1).1))))))
    unfold Builtin.Tuple.tupleIsExact
    refine wpAny_bind (wpAny_bind (wpAny_typeOf ht.typeIs (wpAny_pure ?_)))
    rw [if_pos (by decide)]
    exact wpAny_bind (wpAny_rule (wpAny_pure ⟨_,rfl,wpAny_pure (h0 hp hq)⟩))
  · rw [pick_gen]
    first
      | exact wpAny_bind (m:=Builtin.Tuple.tupleExact _) (wpAny_newObj_type (wpAny_pure ⟨_,rfl,wpAny_pure h⟩) hdrop)
      | exact wpAny_bind (m:=Builtin.Tuple.tupleExact _) (wpAny_newObj_type (wpAny_bind (wpAny_pure (wpAny_pure ⟨_,rfl,wpAny_pure h⟩))) hdrop)
      | exact wpAny_bind (wpAny_bind (m:=Builtin.Tuple.tupleExact _) (wpAny_newObj_type (wpAny_pure (wpAny_pure ⟨_,rfl,wpAny_pure h⟩)) hdrop))
      | exact wpAny_bind (wpAny_bind (m:=Builtin.Tuple.tupleExact _) (wpAny_newObj_type (wpAny_pure ⟨_,rfl,wpAny_pure h⟩) hdrop))
theorem Op.after {r:Rv} {v:Value} {s':Shared} {h₁:Heap} (k:∀b o,s.heap.get? b=some o→h₁.get? b=some o) (p:Op Z {s with heap:=h₁} r v s') :Op Z s r v s':=by
  obtain ⟨h',tk,rfl,k',q⟩:=p
  refine ⟨h',tk,rfl,fun b o e=>k' b o (k b o e),?_⟩
  have old:∀a,h₁.get? a=none→s.heap.get? a=none:=fun a e=>by
    cases q:s.heap.get? a with
    | none=>rfl
    | some o=>rw [k a o q] at e; cases e
  cases q with
  | old r=>exact .old r
  | new e e' r=>exact .new (old _ e) e' r
  | own e r=>exact .own (old _ e) r
set_option tactic.hygienic true in
theorem op_slice {d l h:D} {r:Rv} {vl vu:Value} (he:slcD d l h=some r) (ra:Dat s.heap Z a d) (rl:Dat s.heap Z vl l) (rh:Dat s.heap Z vu h) :
    ∃T id,({s with heap:=s.heap.push {cls:=.type "slice",data:=.fields #[vl,vu,.none]}} :Shared).TypeIs a T∧typeLookup (.type T) "__getitem__" = pure (some (.builtin id))∧
      wpAny (model prog w) A (getItem a (.ref s.heap.objs.size)) (Op Z s r) E {s with heap:=s.heap.push {cls:=.type "slice",data:=.fields #[vl,vu,.none]}}:=by
  unfold slcD at he
  split at he
  · obtain ⟨l,vs,n,rfl,hl,hn,R⟩:=ra.list
    split at he
    · rename_i p q hp hq
      cases he
      rw [← R.length] at hp hq
      obtain ⟨kl,pl,rfl⟩:=lo_part rl hp
      obtain ⟨kh,ph,rfl⟩:=hi_part rh hq
      refine ⟨_,_,⟨_,pK _ _ _ hl,rfl⟩,slot_list_getitem.lookup,wpAny_getItem_list_slice (s:= {s with heap:=s.heap.push _}) (IsL.push hl _).isList (Heap.IsSliceOf.new ..) pl ph .none (by simp) ?_ (by rw [List.size_toArray,← sz_line]; exact hn)⟩
      rw [slicePick_plain]
      refine .after (h₁:=s.heap.push {cls:=.type "slice",data:=.fields #[vl,vu,.none]}) (pK _) ?_
      simp only [List.size_toArray]
      exact .newL (((R.drop _).take _).mono (fun a o J e=>pK _ a o e) fun J z=>z) (by rw [List.length_take,List.length_drop]; exact Nat.le_trans (Nat.le_trans (Nat.min_le_right _ _) (Nat.sub_le _ _)) hn)
    · cases he
  · obtain ⟨l,vs,n,rfl,hl,hn,R,zl⟩:=ra.tuple
    split at he
    · rename_i p q hp hq
      cases he
      rw [← R.length] at hp hq
      obtain ⟨kl,pl,rfl⟩:=lo_part rl hp
      obtain ⟨kh,ph,rfl⟩:=hi_part rh hq
      refine ⟨_,_,⟨_,pK _ _ _ hl,rfl⟩,slot_tuple_getitem.lookup,getItem_tuple_slice (s:= {s with heap:=s.heap.push _}) ⟨_,IsT.push hl _,rfl,_,rfl⟩ (Heap.IsSliceOf.new ..) pl ph (fun h1 h2=>?_) ?_ (by rw [List.size_toArray,← sz_line]; exact hn)⟩
      · refine .after (h₁:=s.heap.push {cls:=.type "slice",data:=.fields #[vl,vu,.none]}) (pK _) (.val ?_)
        rw [List.size_toArray] at h1 h2
        unfold cutL
        rw [h1,h2,List.drop_zero,Nat.sub_zero,List.take_of_length_le (by rw [R.length]; exact Nat.le_refl _)]
        exact .tuple zl (IsT.push hl _) hn (R.mono (fun a o J e=>pK _ a o e) fun J z=>z)
      · refine .after (h₁:=s.heap.push {cls:=.type "slice",data:=.fields #[vl,vu,.none]}) (pK _) ?_
        simp only [List.size_toArray]
        exact .newT (((R.drop _).take _).mono (fun a o J e=>pK _ a o e) fun J z=>z) (by rw [List.length_take,List.length_drop]; exact Nat.le_trans (Nat.le_trans (Nat.min_le_right _ _) (Nat.sub_le _ _)) hn)
    · cases he
  · cases he
end
end Mv
end
section
namespace Mv
open PySem PySem.Builtin PySem.Builtin.Str PyProof.Rows
variable [Hp]
section
variable {A:Around} {E:Value→Shared→Prop} {s:Shared} {Z:Addr→Prop} {v v':Value}
end
end Mv
end
section
namespace Mv
open PySem PyProof.Rows
variable [Hp]
noncomputable def tyName:Ty→String
  | .bool=>"bool"
section
variable {A:Around} {E:Value→Shared→Prop} {s:Shared} {Z:Addr→Prop} {a b:Value}
theorem op_len {d:D} {n:Nat} (he:lenD d = some n) (ra:Dat s.heap Z a d) :wpAny (model prog w) A (call (.builtin "len") [a]) (Op Z s (.fz (.int n))) E s:=by
  cases d <;> first | exact nos he | obtain rfl:=sos he
  · obtain ⟨t,rfl,_,hz⟩:=ra.str
    simp only [Sz] at hz
    exact P.len_str (by unfold Str.length; omega) .int
  · obtain ⟨l,vs,k,rfl,hl,hn,R⟩:=ra.list
    simp only [Sz] at hn
    refine Calls.call_len_list hl.isList (by rw [List.size_toArray]; exact (lin [vs.length] [] 1 (.le (.a (.n (.v 0)) (.c 1)) (.c 9223372036854775808)) [(1,.nle (.v 0) (.c 16777216))] rfl hn)) ?_
    rw [List.size_toArray,R.length]; exact .int
  · obtain ⟨l,vs,k,rfl,hl,hn,R,_⟩:=ra.tuple
    simp only [Sz] at hn
    refine P.len_tuple hl (by rw [List.size_toArray]; exact (fun mvo15=>(linF [vs.length] [] [(1,.nle (.v 0) (.c 16777216)),(1,.le (.c 9223372036854775808) (.n (.v 0)))] rfl hn mvo15))) ?_
    rw [List.size_toArray,R.length]; exact .int
theorem op_isi {d:D} (t:Ty) (ra:Dat s.heap Z a d) :wpAny (model prog w) A (call (.builtin "isinstance") [a,.type (tyName t)]) (Op Z s (.fz (.bool (isiD t d)))) E s:=by
  cases d with
  | none=>obtain rfl:=ra.none; cases t <;> first | exact IsiPair.NoneType_tuple (.valT (.bool _)) | exact IsiPair.NoneType_int (.valT (.bool _)) | exact IsiPair.NoneType_bool (.valT (.bool _)) | exact IsiPair.NoneType_str (.valT (.bool _)) | exact IsiPair.NoneType_list (.valT (.bool _))
  | bool b=>obtain rfl:=ra.bool; cases t <;> first | exact IsiPair.bool_tuple (.valT (.bool _)) | exact IsiPair.bool_int .bool | exact IsiPair.bool_bool .bool | exact IsiPair.bool_str (.valT (.bool _)) | exact IsiPair.bool_list (.valT (.bool _))
  | int i=>obtain ⟨u,rfl⟩:=ra.int; cases t <;> first | exact IsiPair.int_tuple (.valT (.bool _)) | exact IsiPair.int_int .bool | exact IsiPair.int_bool (.valT (.bool _)) | exact IsiPair.int_str (.valT (.bool _)) | exact IsiPair.int_list (.valT (.bool _))
  | str x=>obtain ⟨u,rfl,_⟩:=ra.str; cases t <;> first | exact IsiPair.str_tuple (.valT (.bool _)) | exact IsiPair.str_int (.valT (.bool _)) | exact IsiPair.str_bool (.valT (.bool _)) | exact IsiPair.str_str .bool | exact IsiPair.str_list (.valT (.bool _))
  | list ds=>
    obtain ⟨l,vs,k,rfl,hl,hn,R⟩:=ra.list
    cases t <;> first | exact IsiPair.list_tuple hl rfl (.valT (.bool _)) | exact IsiPair.list_int hl rfl (.valT (.bool _)) | exact IsiPair.list_bool hl rfl (.valT (.bool _)) | exact IsiPair.list_str hl rfl (.valT (.bool _)) | exact IsiPair.list_list hl rfl .bool
  | tuple ds=>
    obtain ⟨l,vs,k,rfl,hl,hn,R,_⟩:=ra.tuple
    cases t <;> first | exact IsiPair.tuple_tuple hl rfl .bool | exact IsiPair.tuple_int hl rfl (.valT (.bool _)) | exact IsiPair.tuple_bool hl rfl (.valT (.bool _)) | exact IsiPair.tuple_str hl rfl (.valT (.bool _)) | exact IsiPair.tuple_list hl rfl (.valT (.bool _))
  | dict kvs=>
    obtain ⟨l,kv,rfl,hd,hn,R⟩:=ra.dict
    obtain ⟨o,_,_,ho,hc,_⟩:=hd.2
    cases t <;> first | exact IsiPair.dict_tuple ho hc.1 (.valT (.bool _)) | exact IsiPair.dict_int ho hc.1 (.valT (.bool _)) | exact IsiPair.dict_bool ho hc.1 (.valT (.bool _)) | exact IsiPair.dict_str ho hc.1 (.valT (.bool _)) | exact IsiPair.dict_list ho hc.1 (.valT (.bool _))
theorem op_intb {b':Bool} (ra:Dat s.heap Z a (.bool b')) :wpAny (model prog w) A (call (.type "int") [a]) (Op Z s (.fz (.int (if b' then 1 else 0)))) E s:=by
  obtain rfl:=ra.bool
  exact call_int_bool .int
theorem op_tupleL {ds:List D} (ra:Dat s.heap Z a (.list ds)) :wpAny (model prog w) A (call (.type "tuple") [a]) (Op Z s (.fz (.tuple ds))) E s:=by
  obtain ⟨l,vs,k,rfl,hl,hn,R⟩:=ra.list
  refine call_tuple_list hl.isList (fun h' hk=>?_) (by rw [List.size_toArray,← sz_line]; exact hn)
  refine .after (h₁:=h') hk ?_
  exact .newT (R.mono (fun a o J e=>hk a o e) fun J z=>z) hn
theorem op_tupleT {ds:List D} (ra:Dat s.heap Z a (.tuple ds)) :wpAny (model prog w) A (call (.type "tuple") [a]) (Op Z s (.fz (.tuple ds))) E s:=by
  obtain ⟨l,vs,k,rfl,hl,hn,R,zl⟩:=ra.tuple
  exact call_tuple_same ⟨_,hl,rfl,_,rfl⟩ (.val (.tuple zl hl hn R))
theorem op_listS {ds:List D} (ra:Dat s.heap Z a (.list ds)∨Dat s.heap Z a (.tuple ds)) :wpAny (model prog w) A (call (.type "list") [a]) (Op Z s (.own (.list ds))) E s:=by
  rcases ra with ra | ra
  · obtain ⟨l,vs,k,rfl,hl,hn,R⟩:=ra.list
    exact call_list_seq l (.inl rfl) hl rfl rfl (fun h' c' hk hD=>⟨h',s.toks,rfl,hk,.own (hN0 _) (.list hD hn (R.mono (fun a o J e=>hk a o e) fun J z=>z))⟩) (by rw [List.size_toArray,← sz_line]; exact hn)
  · obtain ⟨l,vs,k,rfl,hl,hn,R,_⟩:=ra.tuple
    exact call_list_seq l (.inr rfl) hl rfl rfl (fun h' c' hk hD=>⟨h',s.toks,rfl,hk,.own (hN0 _) (.list hD hn (R.mono (fun a o J e=>hk a o e) fun J z=>z))⟩) (by rw [List.size_toArray,← sz_line]; exact hn)
theorem bools_has:∀ {xs:List D} {bs:List Bool},boolsOf xs=some bs→xs=bs.map PyData.bool
  | [],_,h=>by cases h; rfl
  | .bool b::xs,bs,h=>by
    obtain ⟨r,hr,rfl⟩:=Option.map_eq_some_iff.mp h
    rw [bools_has hr]; rfl
  | .int _::_,_,h=>by cases h
  | .none::_,_,h=>by cases h
  | .str _::_,_,h=>by cases h
  | .list _::_,_,h=>by cases h
  | .tuple _::_,_,h=>by cases h
  | .dict _::_,_,h=>by cases h
theorem bools_no (bs:List Bool) :noDicts (bs.map PyData.bool)=true∧(bs.map PyData.bool).all PySem.Spec.Shape.bool.has=true:=by
  induction bs with
  | nil=>exact ⟨rfl,rfl⟩
  | cons b bs ih=>exact ⟨ih.1,by rw [List.map_cons,List.all_cons,ih.2]; rfl⟩
theorem count_bools (b:Bool) :∀bs:List Bool,PySem.Spec.countIn (.bool b) (bs.map PyData.bool)=((bs.count b:Nat) :Int)
  | []=>rfl
  | x::bs=>by
    rw [List.map_cons,List.count_cons]
    show (if PySem.Spec.same (.bool x) (.bool b) then 1 else 0)+PySem.Spec.countIn (.bool b) (bs.map PyData.bool)=_
    rw [count_bools b bs,show PySem.Spec.same (.bool x) (.bool b)=(x==b) from rfl]
    cases x <;> cases b <;> simp <;> (first | exact (Int.le_antisymm (lin [List.count false bs] [] 1 (.le (.a (.c 1) (.n (.v 0))) (.a (.n (.v 0)) (.c 1))) [] rfl) (lin [List.count false bs] [] 1 (.le (.a (.n (.v 0)) (.c 1)) (.a (.c 1) (.n (.v 0)))) [] rfl)) | exact (Int.le_antisymm (lin [List.count true bs] [] 1 (.le (.a (.c 1) (.n (.v 0))) (.a (.n (.v 0)) (.c 1))) [] rfl) (lin [List.count true bs] [] 1 (.le (.a (.n (.v 0)) (.c 1)) (.a (.c 1) (.n (.v 0)))) [] rfl)))
theorem op_count {xs:List D} {bs:List Bool} {k:Bool} (he:boolsOf xs=some bs) (ra:Dat s.heap Z a (.list xs)) (rb:Dat s.heap Z b (.bool k)) :
    wpAny (model prog w) A (call (.builtin "list.count") [a,b]) (Op Z s (.fz (.int (bs.count k:Nat)))) E s:=by
  obtain rfl:=bools_has he
  obtain ⟨as,q⟩:=ra.reads (bools_no bs).1
  obtain ⟨l,vs,n,rfl,hl,hn,R⟩:=ra.list; obtain rfl:=rb.bool
  obtain ⟨as',q'⟩:=R.reads (bools_no bs).1
  refine count_list_bools hl.isList q' (bools_no bs).2 ?_
  rw [count_bools]; exact .int
end
end Mv
end
section
namespace Mv
open PySem PyProof.Rows
section
variable {prog:Program} {w:World} {A:Around} {E:Value→Shared→Prop} {s:Shared}
theorem keys_list:typeLookup (.type "list") "keys" = pure none:=am_miss_of_fast (by kernel_rfl)
theorem list_nokeys {a:Addr} {xs:Array Value} {n:Nat} {Q:Option Value→Shared→Prop} (hx:s.heap.get? a = some {cls:=.type "list",data:=.seq xs n}) (hA:A.handled = none)
    (h:∀h' tk,(∀b o,s.heap.get? b = some o→h'.get? b = some o)→Q none {s with heap:=h',toks:=tk}) :wpAny (model prog w) A (getAttr? (.ref a) "keys") Q E s:=by
  obtain ⟨hp,g,d,tk,os⟩:=s
  have hT:∀tk',(⟨hp,g,d,tk',os⟩ :Shared).TypeIs (.ref a) "list":=fun J=>⟨_,hx,rfl⟩
  have f1:=sub_AttributeError
  have f3:=F.slot_list_getattribute.lookup
  have f4:=F.slot_list_getattribute.bind (.ref a)
  have f5:=am_list_getattr_none
  unfold getAttr? getAttrBy? getAttrBy
  repeat (any_goals (first | assumption | exact hT _ | ((with_reducible show wpAny _ _ (call (Value.builtin "list.__getattribute__") _ _) _ _ _); refine call_meets F.slot_list_getattribute (hT _) am_entry_list_getattribute (F.args_list_getattribute_2 _ _) (meets_getattribute_miss_list a xs n #[] "keys" _ keys_list (by decide) (by size_fits)) ⟨hx,hA,fun h' tk' e hx'=>?_⟩) | wp_step))
  obtain ⟨t',u',he⟩:=hx'.there
  show wpAny _ _ (getattributeRaised _ _ _ _ _ _ _) _ _ _
  unfold getattributeRaised
  repeat (any_goals (first | assumption | wp_step))
  exact h _ _ hx'.of.keeps
theorem entry_dul:entryFor table "dict.update.loop" = some Builtin.«dict.update.loop»:=entryFor_of_tree (by kernel_rfl)
theorem plain_dul:plainId "dict.update.loop" = true:=by decide +kernel
end
section
variable [Hp]
variable {A:Around} {E:Value→Shared→Prop} {s:Shared} {Z:Addr→Prop} {a:Value} {I d l:Addr} {vs:List Value} {R:Result→Shared→Prop}
theorem IsLI.at {h h':Heap} {a t:Addr} {i:Nat} (x:h.IsListIter a t i) (k:∀o,h.get? a=some o→h'.get? a=some o) :h'.IsListIter a t i:=let ⟨o,e,r⟩:=x; ⟨o,k o e,r⟩
theorem dict_loop (hh:A.in1.handled=none) (hId:I≠d) (hlI:l≠I) (hld:l≠d) (zI:¬Z I) (zd:¬Z d) :∀(ds:List D) (i:Nat) (s:Shared) (us:List (Str×Value)) (acc kvs:List (D×D)),s.heap.IsListIter I l i→s.heap.IsList l vs.toArray→RepAll s.heap Z (vs.drop i) ds→dofL acc ds=some kvs→s.heap.DictOf (strKind prog w) d us→RepKV s.heap Z us acc→us.length+ds.length≤1000→
    (∀h' tk us',h'.DictOf (strKind prog w) d us'→RepKV h' Z us' kvs→us'.length≤1000→(∀b o,b≠I→b≠d→s.heap.get? b=some o→h'.get? b=some o)→R (.ok (.ret .none)) {s with heap:=h',toks:=tk})→
    codeAny (model prog w) A (.builtin "dict.update.loop" ⟨[.ref d,.ref I,rawInt i,.none],[]⟩) R s
  | [],i,s,us,acc,kvs,hi,hl,RA,he,hd,K,hb,hR=>by
    have hn:vs.toArray[i]? = none:=by
      generalize hv:vs.drop i=r at RA
      cases RA
      rw [List.getElem?_toArray]; exact List.getElem?_eq_none (List.drop_eq_nil_iff.mp hv)
    obtain rfl:=sos he
    refine codeAny_builtin entry_dul ?_
    rw [Around.under_plainId plain_dul _]
    show wpAny _ A.in1 (pyNext (.ref I) >>= _) _ _ s
    refine wpAny_bind (wpAny_pyNext_list_end hh hi hl hn fun h' ex=>?_)
    show wpAny _ A.in1 (Builtin.Dict.addKeywords d [] >>= _) _ _ _
    have kz:∀b o,Z b→s.heap.get? b=some o→h'.get? b=some o:=fun b o z e=>ex b o (fun q=>zI (q▸z)) e
    exact wpAny_bind (wpAny_pure (wpAny_pure (hR h' s.toks us (hd.extBut ex (Ne.symm hId)) (K.mono kz fun J z=>z) (by simpa using hb) fun b o n1 J e=>ex b o n1 e)))
  | x::ds,i,s,us,acc,kvs,hi,hl,RA,he,hd,K,hb,hR=>by
    generalize hv:vs.drop i=r at RA
    cases RA with
    | @cons v r' _ _ rv RA=>
    have hx:vs.toArray[i]? = some v:=by
      rw [List.getElem?_toArray]
      have:=congrArg (·[0]?) hv
      simpa using this
    have hv':vs.drop (i+1)=r':=by rw [← List.tail_drop,hv]; rfl
    cases rv with
    | @tuple T us2 n2 ds2 zT hT hn2 R2=>
      cases R2 with
      | nil=>exact nos he
      | @cons k r2 dk ds2 rk R2=>
      cases R2 with
      | nil=>exact nos (by cases rk <;> exact he)
      | @cons y r3 dy ds3 ry R2=>
      cases R2 with
      | cons=>exact nos (by cases rk <;> exact he)
      | nil=>
      cases rk with
      | str kx t o1 o2=>
        have he:dofL (dsetL acc kx dy) ds=some kvs:=he
        refine codeAny_builtin entry_dul ?_
        rw [Around.under_plainId plain_dul _]
        show wpAny _ A.in1 (pyNext (.ref I) >>= _) _ _ s
        refine wpAny_bind (wpAny_pyNext_list_item hi hl hx fun h₁ hi₁ sb=>?_)
        have k1:∀b o,b≠I→s.heap.get? b=some o→h₁.get? b=some o:=fun b o q e=>sb.extBut b o q e
        have hT₁:h₁.get? T=some _:=k1 T _ (fun q=>zI (q▸zT)) hT
        refine wpAny_bind (wpAny_holding ?_)
        refine wpAny_bind (wpAny_tryCatch ?_)
        unfold Builtin.Dict.pairItems
        refine wpAny_bind (wpAny_typeOf (T:="tuple") ⟨_,hT₁,rfl⟩ ?_)
        rw [if_pos (by decide)]
        refine wpAny_bind (wpAny_seqItems hT₁ rfl (wpAny_pure ?_))
        show wpAny _ _ (holding [Value.str kx t,y] (dictSet d (Value.str kx t) y)) _ _ _
        have hd₁:h₁.DictOf (strKind prog w) d us:=hd.extBut sb.extBut (Ne.symm hId)
        refine wpAny_holding (wpAny_dictSet_pairs (s:= {s with heap:=h₁}) (strKind_is _ _ kx t) hd₁ (fun h₂ hd₂ sb₂=>?_) (by rw [← sz_line]; exact Nat.le_trans (Nat.le_trans (Nat.le_add_right _ _) hb) (by decide)))
        have k2:∀b o,b≠I→b≠d→s.heap.get? b=some o→h₂.get? b=some o:=fun b o q q' e=>sb₂.extBut b o q' (k1 b o q e)
        have kz:∀b o,Z b→s.heap.get? b=some o→h₂.get? b=some o:=fun b o z e=>k2 b o (fun q=>zI (q▸z)) (fun q=>zd (q▸z)) e
        have hlen:(stored us kx y).length≤us.length+1:=by
          unfold stored; split
          · simp
          · simp
        refine wpAny_pure ⟨plainId_quiet plain_dul _,?_⟩
        refine dict_loop hh hId hlI hld zI zd ds (i+1) {s with heap:=h₂,toks:=s.toks+1} (stored us kx y) (dsetL acc kx dy) kvs (IsLI.at hi₁ fun o e=>sb₂.extBut I o hId e) (hl.at fun o e=>k2 l o hlI hld e) (hv'▸RA.mono kz fun J z=>z) he hd₂ ((K.set o1 o2 ry).mono kz fun J z=>z) (by have:us.length+(ds.length+1)≤1000:=hb; exact (lin [(stored us kx y).length,ds.length,us.length] [] 1 (.nle (.a (.v 0) (.v 1)) (.c 1000)) [(1,.nle (.a (.v 2) (.a (.v 1) (.c 1))) (.c 1000)),(1,.nle (.v 0) (.a (.v 2) (.c 1)))] rfl hb hlen)) fun h' tk us' a1 a2 a3 a4=>hR h' tk us' a1 a2 a3 fun b o q q' e=>a4 b o q q' (k2 b o q q' e)
      | _=>exact nos he
    | _=>exact nos he
theorem sys_ne {h:Heap} (hs:3<h.objs.size) :(h.objs.size==sysModules)=false:=by
  rw [beq_eq_false_iff_ne]; intro e; rw [e] at hs; exact absurd hs (by decide)
set_option tactic.hygienic true in
theorem op_dict {d:D} {r:Rv} (hs:3<s.heap.objs.size) (hh:A.handled=none) (he:biD .dict [d]=some r) (ra:Dat s.heap Z a d) (zl:∀b,Z b→ ∃o,s.heap.get? b=some o) :
    wpAny (model prog w) A (call (.type "dict") [a]) (Op Z s r) E s:=by
  have nz:¬Z s.heap.objs.size:=fun z=>by obtain ⟨o,e⟩:=zl _ z; rw [hN0] at e; cases e
  cases d <;> first | exact nos he | skip
  · rename_i xs
    obtain ⟨l,vs,n,rfl,hl,hn,R⟩:=ra.list
    obtain ⟨hx,he⟩ :xs.length≤1000∧((dofL [] xs).map fun kvs=>Rv.own (.dict kvs))=some r:=by
      have he:(if xs.length≤1000 then (dofL [] xs).map fun kvs=>Rv.own (.dict kvs) else none)=some r:=he
      by_cases q:xs.length≤1000
      · rw [if_pos q] at he; exact ⟨q,he⟩
      · rw [if_neg q] at he; exact nos he
    obtain ⟨kvs,hk,rfl⟩:=Option.map_eq_some_iff.mp he
    let H1:=s.heap.push {cls:=.type "dict",data:=.dict #[]}
    have z1:H1.objs.size=s.heap.objs.size+1:=Heap.size_push ..
    have hlt:=Heap.lt_size hl
    refine callType_codes (Q₁:=fun obj s₁=>obj = .ref s.heap.objs.size∧s₁={s with heap:=H1}) PySem.F.kt_called_dict (PySem.F.kt_typeCall_dict_1 _) PySem.F.entry_dict_init (kt_code_dict_new _ ⟨rfl,rfl⟩) ?_
    rintro obj s₁ ⟨rfl,rfl⟩
    have hnew:H1.DictOf (strKind prog w) s.heap.objs.size []:=Heap.DictOf.new s.heap
    refine ⟨hnew.typeIs,PySem.F.args_dict_init_2 _ _,?_⟩
    unfold Builtin.«dict.__init__»
    refine wpAny_bind ?_
    unfold Builtin.Dict.selfAndRest
    refine wpAny_bind (wpAny_notOrdered_dict hnew.typeIs ?_)
    show wpAny _ _ (pure (s.heap.objs.size,[Value.ref l])) _ _ _
    refine wpAny_pure ?_
    show wpAny _ _ (Builtin.Dict.updateFrom "dict.__init__" s.heap.objs.size (.ref l) [] .none) _ _ _
    unfold Builtin.Dict.updateFrom
    have hl1:H1.get? l = some {cls:=.type "list",data:=.seq vs.toArray n}:=Heap.get?_push_of_some _ hl
    refine wpAny_bind (wpAny_typeOf (T:="list") ⟨_,hl1,rfl⟩ ?_)
    rw [if_pos (by decide)]
    refine wpAny_bind (list_nokeys (s:= {s with heap:=H1}) hl1 (by simp [hh]) fun h₂ tk₂ k2=>?_)
    rw [if_pos (show (none:Option Value).isNone=true from rfl)]
    have hl2:h₂.IsList l vs.toArray:=⟨_,k2 _ _ hl1,rfl,n,rfl⟩
    refine wpAny_bind (wpAny_rule (wpAny_bind (wpAny_pyIter_list (s:= {s with heap:=h₂,toks:=tk₂}) hl2 ?_)))
    let H3:=h₂.push {cls:=.type "list_iterator",data:=.fields #[.ref l,.int 0 0]}
    have k3:∀b o,s.heap.get? b=some o→H3.get? b=some o:=fun b o e=>pK _ b o (k2 b o (pK _ b o e))
    have hd2:h₂.DictOf (strKind prog w) s.heap.objs.size []:=hnew.keep k2
    have lt2:s.heap.objs.size<h₂.objs.size:=by obtain ⟨o,_,_,e,_⟩:=hd2; exact Heap.lt_size e
    refine wpAny_pure ⟨plainId_quiet plain_dul _,?_⟩
    refine dict_loop (vs:=vs) (Z:=Z) (l:=l) (s:= {s with heap:=H3,toks:=tk₂}) (by simp [hh]) (Nat.ne_of_gt lt2) (Nat.ne_of_lt (Nat.lt_trans hlt lt2)) (Nat.ne_of_lt hlt) (fun z=>?_) nz xs 0 [] [] kvs ⟨_,Heap.get?_push_size _ rfl,rfl,rfl⟩ ⟨_,pK _ _ _ (k2 _ _ hl1),rfl,n,rfl⟩ (by rw [List.drop_zero]; exact R.mono (fun b o J=>k3 b o) fun J z=>z) hk (hd2.push _) .nil (by simpa using hx) fun h' tk us' a1 a2 a3 a4=>?_
    · obtain ⟨o,e⟩:=zl _ z
      have:=Heap.lt_size e
      exact absurd (Nat.lt_trans this lt2) (Nat.lt_irrefl _)
    · refine ⟨rfl,h',tk,rfl,fun b o e=>?_,.own (hN0 _) (.dict ⟨sys_ne hs,a1⟩ (Nat.le_trans a3 (by decide)) a2)⟩
      have lb:=Heap.lt_size e
      exact a4 b o (Nat.ne_of_lt (Nat.lt_trans lb lt2)) (Nat.ne_of_lt lb) (k3 b o e)
  · rename_i kvs
    obtain ⟨l,kv,rfl,hd,hn,R⟩:=ra.dict
    obtain ⟨hx,rfl⟩:=ifs he
    refine kt_call_dict hd.1 hd.2 (by rw [← sz_line]; exact hn) fun h' hd' sb=>⟨h',s.toks,rfl,fun b o e=>?_,.own (hN0 _) (.dict ⟨sys_ne hs,hd'⟩ hn (R.mono (fun b o z e=>?_) fun J z=>z))⟩
    · exact sb.extBut b o (Nat.ne_of_lt (Heap.lt_size e)) (pK _ b o e)
    · exact sb.extBut b o (Nat.ne_of_lt (Heap.lt_size e)) (pK _ b o e)
end
end Mv
end
section
namespace Mv
open PySem PyProof.Rows
section
variable [Hp]
variable {A:Around} {E:Value→Shared→Prop} {s:Shared} {Z:Addr→Prop} {a:Value}
end
end Mv
end
section
namespace Mv
open PySem PyProof.Rows
structure Tb where
  fn:List DefRec
  gl:List Str
  cl:List Str:=[]
  sub:List (Str×List Str×List Str):=[]
  sbt:List (List Str×List Str×List Str):=[]
structure Sc where
  names:List (Str×NameKind)
  vars:List (Str×Nat)
  hi:Nat
noncomputable def Sc.isG (sc:Sc) (x:Str) :Prop:=sc.names.lookup x = some .globalImplicit∧(x == ("__debug__" :Str)) = false
noncomputable def Sc.isV (sc:Sc) (x:Str) (i:Nat) :Prop:=sc.vars.lookup x = some i∧(x == ("__debug__" :Str)) = false
inductive ConstIs:Const→D→Prop
  | none:ConstIs .none .none
  | bool (b:Bool) :ConstIs (.bool b) (.bool b)
  | int (i:Int) :ConstIs (.int i) (.int i)
  | str (x:Str) :PyData.strOk x=true→x.cps.size≤Sz→ConstIs (.str x) (.str x)
noncomputable def opOf:Op2→Operator
  | .add=>.Add | .sub=>.Sub | .mul=>.Mult | .fdiv=>.FloorDiv | .mod=>.Mod | .pow=>.Pow
mutual
noncomputable def bvE:Ex→List Nat
  | .lit _=>[] | .gl _=>[] | .var _=>[] | .pl _=>[] | .isx _ _ _=>[]
  | .tup es=>bvEs es
  | .list es=>bvEs es
  | .op2 _ a b=>bvE a++bvE b
  | .neg a=>bvE a
  | .not a=>bvE a
  | .cmp _ a b=>bvE a++bvE b
  | .and es=>bvEs es
  | .or es=>bvEs es
  | .idx a i=>bvE a++bvE i
  | .slc a l h=>bvE a++bvE l++bvE h
  | .call _ es=>bvEs es
  | .bi _ es=>bvEs es
  | .comp e t _ src cs=>tgtVars t++bvE e++bvEs src++bvEs cs
noncomputable def bvEs:List Ex→List Nat
  | []=>[]
  | e::es=>bvE e++bvEs es
end
noncomputable def plX:Ex→List Nat
  | .pl (.var i)=>[i]
  | _=>[]
noncomputable def Apart (x:Ex) (bv:List Nat) :Prop:= ∀i∈plX x,i∉bv
noncomputable def biName:Bi→Str
  | .len=>"len" | .isi _=>"isinstance" | .sum=>"sum" | .all=>"all" | .abs=>"abs" | .int=>"int" | .tuple=>"tuple" | .list=>"list" | .dict=>"dict"
  | _=>"len"
noncomputable def Bi.one:Bi→Bool
  | .len=>true | .int=>true | .tuple=>true | .list=>true | .dict=>true
  | _=>false
noncomputable def baseB:Expr→Bool
  | .Name _ _=>true
  | .Constant _ _ _=>true
  | _=>false
inductive KS:List (Option Expr)→List Str→Prop
  | nil:KS [] []
  | cons {k:Str} {kk:Nat} {p:Pos} {es:List (Option Expr)} {ks:List Str} :KS es ks→KS (some (.Constant (.str k) kk p)::es) (k::ks)
noncomputable def KOk (ks:List Str) :Prop:= ∀k∈ks,PyData.strOk k=true∧k.cps.size≤Sz
noncomputable def Ex.noPl:Ex→Bool
  | .pl _=>false
  | _=>true
noncomputable def bxB (b:Bi) (xs:List Ex) :Bool:=match b with
  | .disp _=>xs.all Ex.noPl
  | _=>true
inductive BX (sc:Sc) :Expr→Bi→List Expr→Prop
  | count {apos pos:Pos} {a k:Expr} :baseB a = true→baseB k = true→(apos.endLine == pos.line) = true→BX sc (.Call (.Attribute a "count" apos) [k] [] pos) .count [a,k]
  | disp {pos:Pos} {kes:List (Option Expr)} {ks:List Str} {es:List Expr} :KS kes ks→ks.Nodup→ks≠ []∧ks.length≤15→KOk ks→ks.length=es.length→BX sc (.Dict kes es pos) (.disp ks) es
noncomputable def compSc (scope:Scope) (sc:Sc) (vs:List Str) (i:Nat) :Sc:=⟨scope.names,vs.zipIdx i++sc.vars.filter fun p=>decide (scope.names.lookup p.1=some .free),i+vs.length⟩
inductive CG (i:Nat) :Expr→List Str→Tgt→Prop
  | one {v:Str} {p:Pos} :CG i (.Name v p) [v] (.one i)
  | two {a b:Str} {pa pb p:Pos} {k:Nat} :CG i (.Tuple [.Name a pa,.Name b pb] k p) [a,b] (.tup [i,i+1])
structure CompOk (scope:Scope) (sc:Sc) (vs:List Str) :Prop where
  kind:scope.kind = .function
  names:∀x∈scope.names,x.2 = .local→scope.names.lookup x.1=some .local
  cell:∀x∈scope.names,x.2≠ .cell
  loc:∀v∈vs,scope.names.lookup v=some .local
  vnd:vs.Nodup
  free:∀x∈scope.names,x.2 = .free→scope.names.lookup x.1 = some .free∧(x.1 == ("__classdict__" :Str)) = false∧(∃i,sc.vars.lookup x.1 = some i)∧(sc.names.lookup x.1 = some .cell∨sc.names.lookup x.1 = some .free)
  nodup:((scope.names.filter fun x=>x.2 == .free).map (·.1)).Nodup
inductive NS (sc:Sc) :List Expr→List Str→Prop
  | nil:NS sc [] []
  | cons {x:Str} {p:Pos} {es:List Expr} {xs:List Str} :sc.isG x→NS sc es xs→NS sc (.Name x p::es) (x::xs)
mutual
inductive CE (tb:Tb) :Sc→Expr→Ex→Prop
  | lit {sc:Sc} {c:Const} {k:Nat} {pos:Pos} {d:D} :ConstIs c d→CE tb sc (.Constant c k pos) (.lit d)
  | var {sc:Sc} {x:Str} {pos:Pos} {i:Nat} :sc.isV x i→CE tb sc (.Name x pos) (.var i)
  | pl {sc:Sc} {x:Str} {pos:Pos} {i:Nat} :sc.isV x i→CE tb sc (.Name x pos) (.pl (.var i))
  | gl {sc:Sc} {x:Str} {pos:Pos} {k:Nat} :sc.isG x→tb.gl[k]? = some x→CE tb sc (.Name x pos) (.gl k)
  | tup {sc:Sc} {es:List Expr} {k:Nat} {pos:Pos} {xs:List Ex} :CEs tb sc es xs→xs.length≤1000→CE tb sc (.Tuple es k pos) (.tup xs)
  | list {sc:Sc} {es:List Expr} {pos:Pos} {xs:List Ex} :CEs tb sc es xs→xs.length≤1000→CE tb sc (.List es pos) (.list xs)
  | op2 {sc:Sc} {a b:Expr} {pos:Pos} {o:Op2} {x y:Ex} :CE tb sc a x→CE tb sc b y→Apart x (bvE y)→CE tb sc (.BinOp a (opOf o) b pos) (.op2 o x y)
  | neg {sc:Sc} {a:Expr} {pos:Pos} {x:Ex} :CE tb sc a x→CE tb sc (.UnaryOp .USub a pos) (.neg x)
  | not {sc:Sc} {a:Expr} {pos:Pos} {x:Ex} :CE tb sc a x→CE tb sc (.UnaryOp .Not a pos) (.not x)
  | cmp {sc:Sc} {a b:Expr} {pos:Pos} {o:Cm} {x y:Ex} :CE tb sc a x→CE tb sc b y→Apart x (bvE y)→CE tb sc (.Compare a [cmOp o] [b] pos) (.cmp o x y)
  | and {sc:Sc} {es:List Expr} {pos:Pos} {xs:List Ex} :CEs tb sc es xs→CE tb sc (.BoolOp .And es pos) (.and xs)
  | or {sc:Sc} {es:List Expr} {pos:Pos} {xs:List Ex} :CEs tb sc es xs→CE tb sc (.BoolOp .Or es pos) (.or xs)
  | idx {sc:Sc} {a i:Expr} {pos:Pos} {x z:Ex} :CE tb sc a x→CE tb sc i z→Apart x (bvE z)→CE tb sc (.Subscript a i pos) (.idx x z)
  | slc {sc:Sc} {a:Expr} {lo hi:Option Expr} {p pos:Pos} {x l h:Ex} :CE tb sc a x→CEo tb sc lo l→CEo tb sc hi h→Apart x (bvE l++bvE h)→CE tb sc (.Subscript a (.Slice lo hi none p) pos) (.slc x l h)
  | call {sc:Sc} {f:Nat} {d:DefRec} {p pos:Pos} {args:List Expr} {xs:List Ex} :tb.fn[f]? = some d→sc.isG d.name→CEs tb sc args xs→args.length≤29→CE tb sc (.Call (.Name d.name p) args [] pos) (.call f xs)
  | bi1 {sc:Sc} {b:Bi} {p pos:Pos} {a:Expr} {x:Ex} :b.one=true→sc.isG (biName b)→CE tb sc a x→CE tb sc (.Call (.Name (biName b) p) [a] [] pos) (.bi b [x])
  | isi {sc:Sc} {t:Ty} {p p' pos:Pos} {a:Expr} {x:Ex} :sc.isG "isinstance"→sc.isG (tyName t)→CE tb sc a x→CE tb sc (.Call (.Name "isinstance" p) [a,.Name (tyName t) p'] [] pos) (.bi (.isi t) [x])
  | comp {sc:Sc} {elt iter g:Expr} {vs:List Str} {t:Tgt} {pos:Pos} {ifs:List Expr} {scope:Scope} {i:Nat} {it:Itk} {src conds:List Ex} {x:Ex} :CG i g vs t→(it = .zip→t.isTup=true)→IT tb sc iter it src→CompOk scope sc vs→sc.hi≤i→
      CE tb (compSc scope sc vs i) elt x→CEs tb (compSc scope sc vs i) ifs conds→(∀j∈tgtVars t,j∉bvE x∧j∉bvEs conds)→CE tb sc (.ListComp elt [⟨g,iter,ifs,0⟩] scope pos) (.comp x t it src conds)
  | isx {sc:Sc} {x C:Str} {p p1 p2 pos:Pos} {i:Nat} {yes no:List Str} :sc.isG "isinstance"→sc.isV x i→sc.isG C→tb.sub.lookup C = some (yes,no)→CE tb sc (.Call (.Name "isinstance" p) [.Name x p1,.Name C p2] [] pos) (.isx i yes no)
  | isxt {sc:Sc} {x:Str} {cs:List Str} {es:List Expr} {p p1 p2 pos:Pos} {k i:Nat} {yes no:List Str} :sc.isG "isinstance"→sc.isV x i→NS sc es cs→cs.length≤1000→tb.sbt.lookup cs = some (yes,no)→CE tb sc (.Call (.Name "isinstance" p) [.Name x p1,.Tuple es k p2] [] pos) (.isx i yes no)
  | bx {sc:Sc} {e:Expr} {b:Bi} {es:List Expr} {xs:List Ex} :BX sc e b es→bxB b xs=true→CEs tb sc es xs→CE tb sc e (.bi b xs)
inductive CEs (tb:Tb) :Sc→List Expr→List Ex→Prop
  | nil {sc:Sc} :CEs tb sc [] []
  | cons {sc:Sc} {e:Expr} {es:List Expr} {x:Ex} {xs:List Ex} :CE tb sc e x→CEs tb sc es xs→Apart x (bvEs xs)→CEs tb sc (e::es) (x::xs)
inductive CEo (tb:Tb) :Sc→Option Expr→Ex→Prop
  | none {sc:Sc} :CEo tb sc none (.lit .none)
  | some {sc:Sc} {e:Expr} {x:Ex} :CE tb sc e x→CEo tb sc (some e) x
inductive IT (tb:Tb) :Sc→Expr→Itk→List Ex→Prop
  | seq {sc:Sc} {e:Expr} {x:Ex} :CE tb sc e x→IT tb sc e .seq [x]
  | range {sc:Sc} {p pos:Pos} {e:Expr} {x:Ex} :sc.isG "range"→CE tb sc e x→IT tb sc (.Call (.Name "range" p) [e] [] pos) .range [x]
  | zip {sc:Sc} {p pos:Pos} {e1 e2:Expr} {x1 x2:Ex} :sc.isG "zip"→CEs tb sc [e1,e2] [x1,x2]→IT tb sc (.Call (.Name "zip" p) [e1,e2] [] pos) .zip [x1,x2]
end
noncomputable def noComp:Expr→Bool
  | .ListComp ..=>false
  | .SetComp ..=>false
  | .DictComp ..=>false
  | _=>true
noncomputable def noTup:Expr→Bool
  | .Tuple _ _ _=>false
  | _=>true
inductive EP1 (e:Expr) (env:Env) (rest:List Expr) (op:CmpOp) (v o' i':Value) (o i:Expr) (p:Pos) (l:Nat) (t:Option Expr) (es:List Expr) (k:Nat) :Prop
  | mk:starEach (e::rest) env=(false,eval e env)::starEach rest env→behindInMarks op e=false→foldedSetIterable e env v=pure v→subscripted e false o' i'=operate [o',i'] (getItem o' i')→
    swapsWith e (some (.Subscript o i p)) l env=pure false→(noComp e=false∨swapsWith e t l env=pure false)→(noTup e=false∨swappedStores [.Tuple es k p] e env=pure none)→EP1 e env rest op v o' i' o i p l t es k
noncomputable def shp:Expr→Bool
  | .Starred _ _=>false
  | .Set _ _ _=>false
  | .Slice _ _ _ _=>false
  | .SetComp _ _ _ _=>false
  | .DictComp _ _ _ _ _=>false
  | _=>true
inductive Sx:Ex→Prop
  | lit (d:D) :Sx (.lit d)
  | var (i:Nat) :Sx (.var i)
  | pl (p:Pl) :Sx (.pl p)
  | gl (k:Nat) :Sx (.gl k)
inductive CI (tb:Tb) (sc:Sc) :Expr→Ex→Prop
  | comp {elt iter g:Expr} {vs:List Str} {t:Tgt} {pos:Pos} {ifs:List Expr} {scope:Scope} {i:Nat} {it:Itk} {src conds:List Ex} {x:Ex} :CG i g vs t→(it = .zip→t.isTup=true)→IT tb sc iter it src→CompOk scope sc vs→sc.hi≤i→
      CE tb (compSc scope sc vs i) elt x→CEs tb (compSc scope sc vs i) ifs conds→(∀j∈tgtVars t,j∉bvE x∧j∉bvEs conds)→CI tb sc (.ListComp elt [⟨g,iter,ifs,0⟩] scope pos) (.comp x t it src conds)
  | lit {c:Const} {k:Nat} {pos:Pos} {d:D} :ConstIs c d→CI tb sc (.Constant c k pos) (.lit d)
  | nm {x:Str} {pos:Pos} {z:Ex} :Sx z→CI tb sc (.Name x pos) z
  | other {e:Expr} {z:Ex} :noComp e=true→baseB e=false→shp e=true→CI tb sc e z
theorem CE.ci {tb:Tb} {sc:Sc} {e:Expr} {x:Ex} (h:CE tb sc e x) :CI tb sc e x:=by
  cases h with
  | lit h=>exact .lit h
  | var _=>exact .nm (.var _)
  | pl _=>exact .nm (.pl _)
  | gl _ _=>exact .nm (.gl _)
  | comp h0 hz h1 h2 h3 h4 h5 h6=>exact .comp h0 hz h1 h2 h3 h4 h5 h6
  | bx h _ _=>cases h <;> exact .other rfl rfl rfl
  | _=>exact .other rfl rfl rfl
theorem CE.shp {tb:Tb} {sc:Sc} {e:Expr} {x:Ex} (h:CE tb sc e x) :shp e=true:=by
  cases h.ci with
  | other _ _ h=>exact h
  | _=>rfl
theorem CE.sx {tb:Tb} {sc:Sc} {k:Expr} {z:Ex} (ce:CE tb sc k z) (hs:baseB k=true) :Sx z:=by
  cases ce.ci with
  | lit _=>exact .lit _
  | nm h=>exact h
  | other _ h _=>rw [h] at hs; cases hs
  | comp=>cases hs
theorem shp_ep {e:Expr} (env:Env) (rest:List Expr) (op:CmpOp) (v o' i':Value) (o i:Expr) (p:Pos) (l:Nat) (t:Option Expr) (es:List Expr) (k:Nat) (h:shp e=true) :EP1 e env rest op v o' i' o i p l t es k:=by
  cases e <;> first | exact .mk rfl rfl rfl rfl rfl (.inr rfl) (.inr rfl) | exact .mk rfl rfl rfl rfl rfl (.inl rfl) (.inr rfl) | exact .mk rfl rfl rfl rfl rfl (.inr rfl) (.inl rfl) | cases h
theorem CE.epl {tb:Tb} {sc:Sc} {e:Expr} {x:Ex} (env:Env) (rest:List Expr) (op:CmpOp) (v o' i':Value) (o i:Expr) (p:Pos) (l:Nat) (t:Option Expr) (es:List Expr) (k:Nat) (h:CE tb sc e x) :EP1 e env rest op v o' i' o i p l t es k:=shp_ep env rest op v o' i' o i p l t es k h.shp
theorem CE.star {tb:Tb} {sc:Sc} {e:Expr} {x:Ex} (h:CE tb sc e x) (env:Env) (rest:List Expr) :starEach (e::rest) env=(false,eval e env)::starEach rest env:=by
  cases CE.epl env rest .Eq .none .none .none e e e.pos 0 none [] 0 h; assumption
theorem CE.noSet {tb:Tb} {sc:Sc} {e:Expr} {x:Ex} (h:CE tb sc e x) (op:CmpOp) :behindInMarks op e=false:=by
  cases CE.epl default [] op .none .none .none e e e.pos 0 none [] 0 h; assumption
theorem CE.noFold {tb:Tb} {sc:Sc} {e:Expr} {x:Ex} (h:CE tb sc e x) (env:Env) (v:Value) :foldedSetIterable e env v=pure v:=by
  cases CE.epl env [] .Eq v .none .none e e e.pos 0 none [] 0 h; assumption
theorem CE.isPlain {tb:Tb} {sc:Sc} {e:Expr} {x:Ex} (h:CE tb sc e x) (o i:Value) :subscripted e false o i=operate [o,i] (getItem o i):=by
  cases CE.epl default [] .Eq .none o i e e e.pos 0 none [] 0 h; assumption
theorem swaps_sub {tb:Tb} {sc:Sc} {env:Env} {e:Expr} {z:Ex} {o i:Expr} {p:Pos} {l:Nat} (ce:CE tb sc e z) :swapsWith e (some (.Subscript o i p)) l env=pure false:=by
  cases CE.epl env [] .Eq .none .none .none o i p l none [] 0 ce; assumption
theorem swaps_plain {tb:Tb} {sc:Sc} {env:Env} {e:Expr} {z:Ex} {t:Option Expr} {l:Nat} (ce:CE tb sc e z) (h:noComp e=true) :swapsWith e t l env=pure false:=by
  cases CE.epl env [] .Eq .none .none .none e e e.pos l t [] 0 ce with
  | mk _ _ _ _ _ a _=>exact a.elim (fun q=>by rw [q] at h; cases h) id
theorem swapped_no {tb:Tb} {sc:Sc} {env:Env} {es:List Expr} {k:Nat} {p:Pos} {value:Expr} {e:Ex} (ce:CE tb sc value e) (h:noTup value=true) :swappedStores [.Tuple es k p] value env=pure none:=by
  cases CE.epl env [] .Eq .none .none .none value value p 0 none es k ce with
  | mk _ _ _ _ _ _ a=>exact a.elim (fun q=>by rw [q] at h; cases h) id
theorem IT.noFold {tb:Tb} {sc:Sc} {e:Expr} {it:Itk} {src:List Ex} (h:IT tb sc e it src) (env:Env) (v:Value) :foldedSetIterable e env v=pure v:=by
  cases h with
  | seq h=>exact h.noFold env v
  | range _ _=>rfl
  | zip _ _=>rfl
theorem bnd_some {α β:Type} {m:Out α} {k:α→Fm→Out β} {o:Except Str β×Fm} (h:bndK m k=some o) :(∃e fr,m=some (.error e,fr)∧o=(.error e,fr))∨ ∃a fr,m=some (.ok a,fr)∧k a fr=some o:=by
  rcases m with _ | ⟨_ | a,fr⟩
  · cases h
  · exact .inl ⟨_,_,rfl,(Option.some.inj h).symm⟩
  · exact .inr ⟨_,_,rfl,h⟩
theorem bndN_some {α β:Type} {m:Out α} {k:α→Fm→Out β} {o:Except Str β×Fm} (h:bndNK m k=some o) :∃a fr,m=some (.ok a,fr)∧k a fr=some o:=by
  rcases m with _ | ⟨_ | a,fr⟩
  · exact nos h
  · exact nos h
  · exact ⟨_,_,rfl,h⟩
inductive OkIs {α:Type} (fr:Fm) (m:Option α) (o:Except Str α×Fm) :Prop
  | mk (a:α) :m=some a→o=(.ok a,fr)→OkIs fr m o
theorem okO_eq {α:Type} {fr:Fm} {m:Option α} {o:Except Str α×Fm} (h:okO fr m=some o) :OkIs fr m o:=by
  cases m with
  | none=>cases h
  | some a=>exact ⟨a,rfl,(Option.some.inj h).symm⟩
theorem okV_eq {fr:Fm} {m:Option Rv} {o:Except Str Rv×Fm} (h:okV fr m=some o) :OkIs fr m o:=by
  rcases m with _ | ⟨_ | _ | _⟩
  · exact nos h
  · exact ⟨_,rfl,(sos h).symm⟩
  · exact ⟨_,rfl,(sos h).symm⟩
  · exact nos h
end Mv
end
section
namespace Mv
open PySem PyProof.Rows
variable [Hp]
theorem rdL.det {h:Heap} {l:Loc} {v v':Value} (x:rdL h l v) (z:rdL h l v') :v=v':=by
  cases l with
  | dict a n=>
    obtain ⟨m,⟨o,es,ep,ho,hd,hk,hf⟩,e⟩:=x
    obtain ⟨m',⟨o',es',ep',ho',hd',hk',hf'⟩,e'⟩:=z
    rw [ho] at ho'; cases ho'
    rw [hd] at hd'; cases hd'
    rw [← hf,hf',e'] at e; cases e; rfl
  | cell a=>
    obtain ⟨o,ho,hd⟩:=x
    obtain ⟨o',ho',hd'⟩:=z
    rw [ho] at ho'; cases ho'
    rw [hd] at hd'; cases hd'; rfl
noncomputable def FrOk (F:Addr→Prop) (A:Around) :Prop:= ∃l,A.frames=some l∧ ∀e∈l,e.scope.kind≠ .module∧ ∃L,e.frame=some L∧F L
structure EnvOk (A:Around) (sc:Sc) (env:Env) (y:Lay) :Prop where
  stk:FrOk (fun a=>y.F a∨a=y.L) A
  hi:∀i l,y.loc i=some l→i<sc.hi
  kind:env.scope.kind = .function
  glob:env.globals=mainGlobals
  blt:env.builtins=builtinsNs
  frame:env.frame=some y.L
  var:∀x i,sc.vars.lookup x = some i→(env.kindOf x = some .local∧y.loc i = some (.dict env.locals x))∨((env.kindOf x = some .cell∨(env.kindOf x = some .free∧(x == ("__classdict__" :Str)) = false))∧ ∃c,env.cells.lookup x = some c∧y.loc i = some (.cell c))
  gl:∀x,sc.names.lookup x=some .globalImplicit→env.kindOf x=some .globalImplicit
  cf:∀x,sc.names.lookup x=some .cell∨sc.names.lookup x=some .free→env.kindOf x=some .cell∨env.kindOf x=some .free
noncomputable def biNames:List Str:=["len","isinstance","sum","all","abs","int","str","tuple","list","bool","range","set","zip","dict"]
noncomputable def Asked (B:Heap) (C:Addr) (V:Value) (b:Bool) :Prop:= ∀(prog:Program) (w:World) (A:Around) (E:Value→Shared→Prop) (s:Shared) (a:Addr) (o:Obj),(∀a o,B.get? a=some o→s.heap.get? a=some o)→s.heap.get? a=some o→(o.cls = .ref C∧o.dict=none∧ ∃vs,o.data = .fields vs)→
  (∀Q:Bool→Shared→Prop,Q b s→wpAny (model prog w) A (excMatches (.ref a) V) Q E s)∧ ∀Q:Value→Shared→Prop,(∀tk,Q (.bool b) {s with toks:=tk})→wpAny (model prog w) A (call (.builtin "isinstance") [.ref a,V]) Q E s
noncomputable def AskedT (B:Heap) (C:Addr) (Vs:List Value) (b:Bool) :Prop:= ∀(prog:Program) (w:World) (A:Around) (E:Value→Shared→Prop) (s:Shared) (a tp:Addr) (o:Obj),(∀a o,B.get? a=some o→s.heap.get? a=some o)→s.heap.get? a=some o→(o.cls = .ref C∧o.dict=none∧ ∃vs,o.data = .fields vs)→
  s.heap.get? tp = some {cls:=.type "tuple",data:=.seq Vs.toArray}→ ∀Q:Value→Shared→Prop,(∀tk,Q (.bool b) {s with toks:=tk})→wpAny (model prog w) A (call (.builtin "isinstance") [.ref a,.ref tp]) Q E s
noncomputable def LoadAs (mg mb:Str→Option Value) :List Str→List Value→Prop
  | [],[]=>True
  | x::xs,v::vs=>(mg x=some v∨(mg x=none∧mb x=some v))∧LoadAs mg mb xs vs
  | _,_=>False
structure Gd (B:Heap) (mg mb:Str→Option Value) (glob:List D) (tb:Tb) :Prop where
  g:B.Ns mainGlobals mg
  b:B.Ns builtinsNs mb
  nl:B.NoLimit
  bt:∀x:Str,x≠"__name__"→mb x = bootBuiltins x
  fn:∀(f:Nat) (d:DefRec),tb.fn[f]? = some d→ ∃a o pm code doc,mg d.name=some (.ref a)∧B.get? a=some o∧o.data = .func (Calls.docDef d.name d.params d.body d.scope pm code doc)∧B.CodeRec code d.name
  gl:∀(k:Nat) (x:Str) (d:D),tb.gl[k]? = some x→glob[k]? = some d→ ∃v,mg x=some v∧ ∀(h:Heap) (Z:Addr→Prop),(∀a o,B.get? a=some o→h.get? a=some o)→(∀a o,B.get? a=some o→Z a)→Rep h Z v d
  bi:∀x∈biNames,mg x=none
  cl:∀k∈tb.cl, ∃C Bb newId initId bm,OwnClsQ k C bm newId mg B∧ExcBaseFacts Bb newId initId bm
  ask:∀c yes no,tb.sub.lookup c=some (yes,no)→ ∃V,(mg c=some V∨(mg c=none∧mb c=some V))∧ ∀k C,mg k=some (.ref C)→(k∈yes→Asked B C V true)∧(k∈no→Asked B C V false)
  askT:∀cs yes no,tb.sbt.lookup cs=some (yes,no)→ ∃Vs,LoadAs mg mb cs Vs∧ ∀k C,mg k=some (.ref C)→(k∈yes→AskedT B C Vs true)∧(k∈no→AskedT B C Vs false)
section
variable {B:Heap} {y:Lay} {bv bv':List Nat} {own own':Addr→Option Nat} {Z Z':Addr→Prop} {s s':Shared} {fr fr':Fm}
inductive PostE (B:Heap) (y:Lay) (bv:List Nat) (own:Addr→Option Nat) (Z:Addr→Prop) (s:Shared) (out:Except Str Rv×Fm) (v:Value) (s':Shared) :Prop
  | mk (r:Rv) (own':Addr→Option Nat) (Z':Addr→Prop) :out.1 = .ok r→Inv B y own' Z' s'.heap out.2→Step y bv own Z s own' Z' s'→RvAt y own' Z' s.heap s'.heap r v→PostE B y bv own Z s out v s'
set_option tactic.hygienic true in
theorem RvAt.dat {h₀ h:Heap} {r:Rv} {v:Value} {d:D} (I:Inv B y own Z h fr) (q:RvAt y own Z h₀ h r v) (e:rvD fr r=some d) :Dat h Z v d:=by
  cases r with
  | fz d'=>cases e; exact .inl q
  | own d'=>cases e; obtain ⟨a,rfl,_,_,_,_,w⟩:=q; exact .inr ⟨a,rfl,w⟩
  | pl p=>
    cases p with
    | var i=>
      obtain ⟨l,hl,hr⟩:=q
      simp only [rvD,plGet] at e
      split at e
      · rename_i d' hs
        cases e
        obtain ⟨l',v',hl',hr',R⟩:=I.at' i _ hs (by intro n; cases n)
        rw [hl] at hl'; cases hl'
        obtain rfl:=hr.det hr'
        exact .inl R
      · rename_i d' hs
        cases e
        obtain ⟨l',v',hl',hr',a,rfl,oa,w⟩:=I.at' i _ hs (by intro n; cases n)
        rw [hl] at hl'; cases hl'
        obtain rfl:=hr.det hr'
        exact .inr ⟨a,rfl,w⟩
      · cases e
inductive FrzTo (B:Heap) (y:Lay) (bv:List Nat) (own:Addr→Option Nat) (Z:Addr→Prop) (s:Shared) (own':Addr→Option Nat) (s':Shared) (fr:Fm) (v:Value) (d:D) :Prop
  | mk (Z'':Addr→Prop) :Inv B y own' Z'' s'.heap fr→Step y bv own Z s own' Z'' s'→Rep s'.heap Z'' v d→FrzTo B y bv own Z s own' s' fr v d
theorem RvAt.freeze {r:Rv} {v:Value} {d:D} (I:Inv B y own' Z' s'.heap fr) (S:Step y bv own Z s own' Z' s') (q:RvAt y own' Z' s.heap s'.heap r v) (e:rvV r=some d) :
    FrzTo B y bv own Z s own' s' fr v d:=by
  cases r with
  | fz d'=>cases e; exact ⟨Z',I,S,q⟩
  | own d'=>
    cases e
    obtain ⟨a,rfl,n0,nw,nf,nz,w⟩:=q
    obtain ⟨o,ho⟩:=w.live
    exact ⟨_,I.addZ nw nf ho,S.addZ n0,w.rep (fun J z=>.inl z) (.inr rfl)⟩
  | pl p=>cases e
theorem Op.post {s₂:Shared} {Z₂:Addr→Prop} {own₂:Addr→Option Nat} {r:Rv} {v:Value} {s₃:Shared} (I:Inv B y own₂ Z₂ s₂.heap fr) (S:Step y bv own Z s own₂ Z₂ s₂) (p:Op Z₂ s₂ r v s₃) :PostE B y bv own Z s (.ok r,fr) v s₃:=by
  obtain ⟨h',tk,rfl,k,q⟩:=p
  cases q with
  | old R=>exact ⟨_,own₂,Z₂,rfl,I.grow k,S.trans (.grow k),R⟩
  | new e e' R=>exact ⟨_,own₂,_,rfl,I.growZ k e e',S.trans (.growZ k e),R⟩
  | @own a d e w=>
    have f:=I.fresh e
    exact ⟨_,own₂,Z₂,rfl,I.grow k,S.trans (.grow k),a,rfl,S.old a e,f.1,f.2.1,f.2.2,w⟩
theorem PostE.val {d:D} {v:Value} (I:Inv B y own' Z' s'.heap fr) (S:Step y bv own Z s own' Z' s') (R:Rep s'.heap Z' v d) :PostE B y bv own Z s (.ok (.fz d),fr) v s':=⟨_,own',Z',rfl,I,S,R⟩
theorem plVars_of {r:Rv} {d:D} (e:rvV r=some d) :plVars r=[]:=by cases r <;> first | rfl | cases e
end
section
variable {A:Around} {E:Value→Shared→Prop} {env:Env} {B:Heap} {mg mb:Str→Option Value} {glob:List D} {tb:Tb} {sc:Sc} {y:Lay} {c:Cfg} {n:Nat}
  {bv:List Nat} {own own₁:Addr→Option Nat} {Z Z₁:Addr→Prop} {s s₁:Shared} {fr fr₁:Fm}
theorem load_var {x:Str} {i:Nat} {pos:Pos} {l:Loc} {v:Value} {Q:Value→Shared→Prop} (en:EnvOk A sc env y) (hv:sc.isV x i) (hl:y.loc i=some l) (hr:rdL s.heap l v) (h:Q v s) :
    wpAny (model prog w) A (eval (.Name x pos) env) Q E s:=by
  refine wpAny_Name ?_ hv.2
  rcases en.var x i hv.1 with ⟨hk,e⟩ | ⟨hk | ⟨hk,hc⟩,c,hc',e⟩
  · rw [hl] at e; cases e
    obtain ⟨m,hn,hm⟩:=hr
    exact wpAny_loadName_local en.kind hk hn hm h
  · rw [hl] at e; cases e
    exact wpAny_loadName_cell en.kind hk hc' hr h
  · rw [hl] at e; cases e
    exact wpAny_loadName_free en.kind hk hc' hr h hc
theorem load_glob {x:Str} {pos:Pos} {v:Value} {Q:Value→Shared→Prop} (gd:Gd B mg mb glob tb) (en:EnvOk A sc env y) (I:Inv B y own Z s.heap fr) (hx:sc.isG x) (hv:mg x=some v) (h:Q v s) :
    wpAny (model prog w) A (eval (.Name x pos) env) Q E s:=
  Calls.Name_function_global en.kind (en.gl x hx.1) (Calls.loadGlobal_global (by rw [en.glob]; exact gd.g.keeps I.base) hv h) hx.2
theorem load_blt {x:Str} {pos:Pos} {v:Value} {Q:Value→Shared→Prop} (gd:Gd B mg mb glob tb) (en:EnvOk A sc env y) (I:Inv B y own Z s.heap fr) (hx:sc.isG x) (hm:x∈biNames) (hn:x≠"__name__") (hv:bootBuiltins x = some v) (h:Q v s) :
    wpAny (model prog w) A (eval (.Name x pos) env) Q E s:=
  Calls.Name_function_global en.kind (en.gl x hx.1) (Calls.loadGlobal_builtin (by rw [en.glob]; exact gd.g.keeps I.base) (gd.bi x hm) (by rw [en.blt]; exact gd.b.keeps I.base) ((gd.bt x hn).trans hv) h) hx.2
end
noncomputable def biVal:Bi→Value
  | .len=>.builtin "len" | .isi _=>.builtin "isinstance" | .sum=>.builtin "sum" | .all=>.builtin "all" | .abs=>.builtin "abs" | .int=>.type "int" | .tuple=>.type "tuple" | .list=>.type "list" | .dict=>.type "dict"
  | _=>.builtin "len"
theorem biName_mem (b:Bi) :biName b∈biNames:=by cases b <;> (dsimp only [biName]; decide)
theorem biName_ne (b:Bi) :biName b≠("__name__" :Str):=by cases b <;> (dsimp only [biName]; decide)
theorem boot_bi (b:Bi) :bootBuiltins (biName b)=some (biVal b):=by
  cases b <;> (dsimp only [biName,biVal]; boot_fast)
theorem boot_ty (t:Ty) :bootBuiltins (tyName t)=some (.type (tyName t)):=by
  cases t <;> (dsimp only [tyName]; boot_fast)
theorem boot_range:bootBuiltins "range" = some (.type "range"):=by boot_fast
end Mv
end
section
namespace Mv
open PySem PyProof.Rows
variable [Hp]
structure Gh (B:Heap) (F:Addr→Prop) (own:Addr→Option Nat) (Z:Addr→Prop) (h:Heap) :Prop where
  base:∀a o,B.get? a=some o→h.get? a=some o
  zb:∀a o,B.get? a=some o→Z a
  zo:∀a,Z a→own a=none
  zF:∀a,Z a→ ¬F a
  oF:∀a,own a≠none→ ¬F a
  zlv:∀a,Z a→ ∃o,h.get? a=some o
  olv:∀a,own a≠none→ ∃o,h.get? a=some o
  flv:∀a,F a→ ∃o,h.get? a=some o∧NR o
structure GStep (F:Addr→Prop) (own:Addr→Option Nat) (Z:Addr→Prop) (s:Shared) (own':Addr→Option Nat) (Z':Addr→Prop) (s':Shared) :Prop where
  sh:∃h' tk,s'={s with heap:=h',toks:=tk}
  ext:Ext (fun a=>own a≠none) F s.heap s'.heap
  zm:∀a,Z a→Z' a
  zn:∀a,Z' a→Z a∨own a≠none∨s.heap.get? a=none
  on:∀a i,own' a=some i→own a=some i∨s.heap.get? a=none
noncomputable def SlotsAt (own:Addr→Option Nat) (Z:Addr→Prop) (h:Heap) (args:List Slot) (vs:List Value) :Prop:=
  args.length=vs.length∧ ∀(k:Nat) (sl:Slot) (v:Value),args[k]? = some sl→vs[k]? = some v→sl≠ .no∧SlotV h Z (fun a=>own a=some k) sl v
noncomputable def RetAt (F:Addr→Prop) (own:Addr→Option Nat) (Z:Addr→Prop) (h₀ h:Heap) :Rv→Value→Prop
  | .fz d,v=>Rep h Z v d
  | .own d,v=> ∃a,v = .ref a∧h₀.get? a=none∧own a=none∧ ¬F a∧ ¬Z a∧OwnAt h Z a d
  | .pl _,_=>False
noncomputable def OutsAt (own:Addr→Option Nat) (Z:Addr→Prop) (h:Heap) :Nat→List Slot→List Value→List Slot→Prop
  | k,sl::ss,v::vs,outs=>if sl.lent=true then ∃o os,outs=o::os∧(o≠ .no→SlotV h Z (fun a=>own a=some k) o v)∧OutsAt own Z h (k+1) ss vs os else OutsAt own Z h (k+1) ss vs outs
  | _,_,_,_=>True
inductive ExcIs (B h:Heap) (P:Addr→Prop) (a:Addr) (nm:Str) :Prop
  | mk (pa:P a) (oe:Obj) (vs:Array Value) (C:Addr) (m:Str→Option Value) :h.get? a=some oe→(oe.cls = .ref C∧oe.dict=none)→oe.data = .fields vs→B.Ns mainGlobals m→m nm=some (.ref C)→
    (vs[1]? = some .none∨ ∃T oT ts,vs[1]? = some (.ref T)∧T≠a∧h.get? T=some oT∧oT.data = .fields ts∧ts[3]? = some .none∧P T)→ExcIs B h P a nm
theorem ExcIs.mono {B h:Heap} {P P':Addr→Prop} {a:Addr} {nm:Str} (x:ExcIs B h P a nm) (k:∀b o,h.get? b=some o→P b→P' b) :ExcIs B h P' a nm:=by
  obtain ⟨p,oe,vs,C,m,he,hc,hd,hn,hm,ht⟩:=x
  rcases ht with q | ⟨T,oT,ts,h1,h2,h3,h4,h5,h6⟩
  · exact ⟨k a _ he p,oe,vs,C,m,he,hc,hd,hn,hm,.inl q⟩
  · exact ⟨k a _ he p,oe,vs,C,m,he,hc,hd,hn,hm,.inr ⟨T,oT,ts,h1,h2,h3,h4,h5,k T _ h3 h6⟩⟩
inductive CallPost (B:Heap) (F:Addr→Prop) (own:Addr→Option Nat) (Z:Addr→Prop) (s:Shared) (args:List Slot) (vs:List Value) (res:Except Str Rv) (outs:List Slot) (r:Result) (s':Shared) :Prop
  | mk (own':Addr→Option Nat) (Z':Addr→Prop) :Gh B F own' Z' s'.heap→GStep F own Z s own' Z' s'→OutsAt own' Z' s'.heap 0 args vs outs→
    ((∃rv v,res = .ok rv∧r = .ok (.ret v)∧RetAt F own' Z' s.heap s'.heap rv v)∨
      ∃nm a,res = .error nm∧r = .error (.ref a)∧ExcIs B s'.heap (fun b=>s.heap.get? b=none∧own' b=none∧ ¬F b∧ ¬Z' b) a nm)→CallPost B F own Z s args vs res outs r s'
noncomputable def CallSpec (B:Heap) (mg:Str→Option Value) (tb:Tb) (n:Nat) (call:Bool→Nat→List Slot→Option (Except Str Rv×List Slot)) :Prop:=
  ∀hd f args res outs,call hd f args=some (res,outs)→ ∀(d:DefRec),tb.fn[f]? = some d→ ∀fa,mg d.name=some (.ref fa)→ ∀(A:Around) (F:Addr→Prop) (own:Addr→Option Nat) (Z:Addr→Prop) (s:Shared) (vs:List Value),
    A.depth+n≤999→A.units+4*n≤4000→(hd=false→A.handled=none)→FrOk F A→Gh B F own Z s.heap→SlotsAt own Z s.heap args vs→
    codeAny (model prog w) A (.call (.ref fa) ⟨vs,[]⟩) (CallPost B F own Z s args vs res outs) s
noncomputable def posOf (rs:List Rv) (i:Nat) :Nat→Option Nat
  | k=>match rs with
    | []=>none
    | .pl (.var j)::rs=>if j=i then some k else posOf rs i (k+1)
    | _::rs=>posOf rs i (k+1)
set_option tactic.hygienic true in
theorem posOf_get:∀ {rs:List Rv} {i k j:Nat},posOf rs i k=some j→k≤j∧rs[j - k]? = some (.pl (.var i))
  | [],_,_,_,h=>by simp [posOf] at h
  | r::rs,i,k,j,h=>by
    have tail:posOf rs i (k+1)=some j→k≤j∧(r::rs)[j - k]? = some (.pl (.var i)):=fun h=>by
      obtain ⟨h1,h2⟩:=posOf_get h
      refine ⟨by exact (lin [k,j] [] 1 (.nle (.v 0) (.v 1)) [(1,.nle (.a (.v 0) (.c 1)) (.v 1))] rfl h1),?_⟩
      obtain ⟨m,rfl⟩ :∃m,j=k+1+m:=⟨j - (k+1),by exact (Nat.le_antisymm (lin [j,k,j - (k+(1:Nat))] [] 1 (.nle (.v 0) (.a (.a (.v 1) (.c 1)) (.v 2))) [(-1,.neq (.a (.v 2) (.a (.v 1) (.c 1))) (.v 0))] rfl (Nat.sub_add_cancel (n:=j) (m:=k+(1:Nat)) h1)) (lin [k,j - (k+(1:Nat)),j] [] 1 (.nle (.a (.a (.v 0) (.c 1)) (.v 1)) (.v 2)) [(1,.neq (.a (.v 1) (.a (.v 0) (.c 1))) (.v 2))] rfl (Nat.sub_add_cancel (n:=j) (m:=k+(1:Nat)) h1)))⟩
      rw [show k+1+m - k=m+1 from by exact (Nat.le_antisymm (lin [k+(1:Nat)+m - k,m,k] [] 1 (.nle (.v 0) (.a (.v 1) (.c 1))) [(1,.neq (.a (.v 0) (.v 2)) (.a (.a (.v 2) (.c 1)) (.v 1)))] rfl (Nat.sub_add_cancel (n:=k+(1:Nat)+m) (m:=k) (lin [k,m] [] 1 (.nle (.v 0) (.a (.a (.v 0) (.c 1)) (.v 1))) [(1,.nle (.a (.v 0) (.c 1)) (.a (.a (.v 0) (.c 1)) (.v 1)))] rfl h1))) (lin [m,k+(1:Nat)+m - k,k] [] 1 (.nle (.a (.v 0) (.c 1)) (.v 1)) [(-1,.neq (.a (.v 1) (.v 2)) (.a (.a (.v 2) (.c 1)) (.v 0)))] rfl (Nat.sub_add_cancel (n:=k+(1:Nat)+m) (m:=k) (lin [k,m] [] 1 (.nle (.v 0) (.a (.a (.v 0) (.c 1)) (.v 1))) [(1,.nle (.a (.v 0) (.c 1)) (.a (.a (.v 0) (.c 1)) (.v 1)))] rfl h1)))),List.getElem?_cons_succ]
      rw [show k+1+m - (k+1)=m from by exact (Nat.le_antisymm (lin [k+(1:Nat)+m - (k+(1:Nat)),m,k] [] 1 (.nle (.v 0) (.v 1)) [(1,.neq (.a (.v 0) (.a (.v 2) (.c 1))) (.a (.a (.v 2) (.c 1)) (.v 1)))] rfl (Nat.sub_add_cancel (n:=k+(1:Nat)+m) (m:=k+(1:Nat)) h1)) (lin [m,k+(1:Nat)+m - (k+(1:Nat)),k] [] 1 (.nle (.v 0) (.v 1)) [(-1,.neq (.a (.v 1) (.a (.v 2) (.c 1))) (.a (.a (.v 2) (.c 1)) (.v 0)))] rfl (Nat.sub_add_cancel (n:=k+(1:Nat)+m) (m:=k+(1:Nat)) h1)))] at h2
      exact h2
    unfold posOf at h
    split at h
    · rename_i e; cases e
    · rename_i j' rs' e
      cases e
      split at h
      · rename_i q; cases h; subst q; exact ⟨Nat.le_refl _,by simp⟩
      · exact tail h
    · rename_i e; cases e; exact tail h
theorem mem_roots:∀ {rs:List Rv} {j i:Nat},rs[j]? = some (.pl (.var i))→i∈roots rs
  | [],_,_,h=>by simp at h
  | r::rs,0,i,h=>by simp at h; subst h; simp [roots]
  | r::rs,j+1,i,h=>by
    have:=mem_roots (rs:=rs) (j:=j) (by simpa using h)
    cases r with
    | pl p=>cases p <;> simp [roots,this]
    | fz _=>simpa [roots] using this
    | own _=>simpa [roots] using this
theorem posOf_at:∀ {rs:List Rv} {j i k:Nat},(roots rs).Nodup→rs[j]? = some (.pl (.var i))→posOf rs i k=some (k+j)
  | [],_,_,_,_,h=>by simp at h
  | r::rs,0,i,k,_,h=>by simp at h; subst h; simp [posOf]
  | r::rs,j+1,i,k,nd,h=>by
    have h':rs[j]? = some (.pl (.var i)):=by simpa using h
    have e:k+(j+1)=k+1+j:=by exact (Nat.le_antisymm (lin [k,j] [] 1 (.nle (.a (.v 0) (.a (.v 1) (.c 1))) (.a (.a (.v 0) (.c 1)) (.v 1))) [] rfl) (lin [k,j] [] 1 (.nle (.a (.a (.v 0) (.c 1)) (.v 1)) (.a (.v 0) (.a (.v 1) (.c 1)))) [] rfl))
    unfold posOf
    cases r with
    | pl p=>
      cases p with
      | var j'=>
        simp only [roots,List.nodup_cons] at nd
        dsimp only
        rw [if_neg (fun q:j'=i=>nd.1 (by rw [q]; exact mem_roots h')),e]; exact posOf_at nd.2 h'
    | fz _=>rw [e]; exact posOf_at (by simpa [roots] using nd) h'
    | own _=>rw [e]; exact posOf_at (by simpa [roots] using nd) h'
noncomputable def frz:Rv→Rv
  | .own d=>.fz d
  | r=>r
noncomputable def RvsAt (y:Lay) (own:Addr→Option Nat) (Z:Addr→Prop) (h₀ h:Heap) :List Rv→List Value→Prop
  | [],[]=>True
  | r::rs,v::vs=>RvAt y own Z h₀ h (frz r) v∧RvsAt y own Z h₀ h rs vs
  | _,_=>False
theorem RvsAt.one {y:Lay} {own:Addr→Option Nat} {Z:Addr→Prop} {h₀ h:Heap} {r:Rv} {vs:List Value} (R:RvsAt y own Z h₀ h [r] vs) :∃v,vs=[v]∧RvAt y own Z h₀ h (frz r) v:=by
  cases vs with
  | nil=>exact R.elim
  | cons v vs=>
    cases vs with
    | nil=>exact ⟨v,rfl,R.1⟩
    | cons _ _=>exact R.2.elim
theorem RvsAt.length {y:Lay} {own:Addr→Option Nat} {Z:Addr→Prop} {h₀ h:Heap} :∀ {rs:List Rv} {vs:List Value},RvsAt y own Z h₀ h rs vs→rs.length=vs.length
  | [],[],_=>rfl
  | _::rs,_::vs,h=>by rw [List.length_cons,List.length_cons,RvsAt.length h.2]
  | [],_::_,h=>h.elim
  | _::_,[],h=>h.elim
theorem RvsAt.get {y:Lay} {own:Addr→Option Nat} {Z:Addr→Prop} {h₀ h:Heap} :∀ {rs:List Rv} {vs:List Value} {k:Nat} {r:Rv} {v:Value},RvsAt y own Z h₀ h rs vs→rs[k]? = some r→vs[k]? = some v→RvAt y own Z h₀ h (frz r) v
  | [],[],_,_,_,_,e,_=>by simp at e
  | r::rs,v::vs,0,_,_,h,e,e'=>by simp at e e'; subst e; subst e'; exact h.1
  | r::rs,v::vs,k+1,_,_,h,e,e'=>RvsAt.get h.2 (by simpa using e) (by simpa using e')
  | [],_::_,_,_,_,h,_,_=>h.elim
  | _::_,[],_,_,_,h,_,_=>h.elim
noncomputable def argSlot (fr:Fm) :Rv→Option Slot
  | .fz d=>some (Slot.fz d)
  | .own d=>some (.fz d)
  | .pl (.var i)=>(match fr[i]? with
    | some (.fz d)=>some (.fz d)
    | some (.own d)=>some (.own d)
    | some (.exc c)=>some (.exc c)
    | _=>none)
set_option tactic.hygienic true in
theorem argSlots_cons {fr:Fm} {r:Rv} {rs:List Rv} {ss:List Slot} (h:argSlots fr (r::rs)=some ss) :∃sl ss',ss=sl::ss'∧argSlot fr r=some sl∧argSlots fr rs=some ss':=by
  unfold argSlots at h
  split at h
  · rename_i sl ss' h1 h2
    cases h
    refine ⟨sl,ss',rfl,?_,h2⟩
    cases r with
    | fz d=>exact h1
    | own d=>exact h1
    | pl p=>cases p <;> exact h1
  · cases h
theorem argSlots_get {fr:Fm} :∀ {rs:List Rv} {ss:List Slot},argSlots fr rs=some ss→rs.length=ss.length∧ ∀(k:Nat) (r:Rv),rs[k]? = some r→ ∃sl,ss[k]? = some sl∧argSlot fr r=some sl
  | [],ss,h=>by simp only [argSlots] at h; cases h; exact ⟨rfl,fun k r e=>by simp at e⟩
  | r::rs,ss,h=>by
    obtain ⟨sl,ss',rfl,h1,h2⟩:=argSlots_cons h
    obtain ⟨h3,h4⟩:=argSlots_get h2
    refine ⟨by simp [h3],fun k r' e=>?_⟩
    cases k with
    | zero=>simp at e; subst e; exact ⟨sl,rfl,h1⟩
    | succ k=>simpa using h4 k r' (by simpa using e)
set_option tactic.hygienic true in
theorem argSlot_lent {fr:Fm} {r:Rv} {sl:Slot} (h:argSlot fr r=some sl) (hl:sl.lent=true) :∃i,r = .pl (.var i)∧fr[i]? = some sl:=by
  unfold argSlot at h
  split at h <;> first
    | (cases h; cases hl; done)
    | (rename_i i; refine ⟨i,rfl,?_⟩; split at h <;> first | (cases h; cases hl; done) | (cases h; assumption) | (cases h; done))
    | (cases h; done)
noncomputable def ownC (own:Addr→Option Nat) (rs:List Rv) (a:Addr) :Option Nat:=(own a).bind fun i=>posOf rs i 0
noncomputable def rootAt (rs:List Rv) (k:Nat) :Option Nat:=match rs[k]? with
  | some (.pl (.var i))=>some i
  | _=>none
noncomputable def ownB (own ownN:Addr→Option Nat) (rs:List Rv) (a:Addr) :Option Nat:=match ownN a with
  | some k=>rootAt rs k
  | none=>match own a with
    | some i=>(match posOf rs i 0 with
      | some _=>none
      | none=>some i)
    | none=>none
theorem ownC_some {own:Addr→Option Nat} {rs:List Rv} {a:Addr} {k:Nat} (h:ownC own rs a=some k) :∃i,own a=some i∧posOf rs i 0=some k:=Option.bind_eq_some_iff.mp h
theorem ownC_ne {own:Addr→Option Nat} {rs:List Rv} {a:Addr} (h:ownC own rs a≠none) :own a≠none:=fun e=>h (by unfold ownC; rw [e]; rfl)
section
variable {B:Heap} {y:Lay} {own:Addr→Option Nat} {Z:Addr→Prop} {s s':Shared} {fr:Fm} {rs:List Rv} {ss outs:List Slot} {vs:List Value}
theorem call_gh (I:Inv B y own Z s.heap fr) (rs:List Rv) :Gh B (fun a=>y.F a∨a=y.L) (ownC own rs) Z s.heap where
  base:=I.base
  zb:=I.zb
  zo:=fun a z=>by unfold ownC; rw [I.zo a z]; rfl
  zF:=fun a z f=>f.elim (I.zF a z) fun e=>I.zL (e▸z)
  oF:=fun a h f=>f.elim (I.oF a (ownC_ne h)) fun e=>ownC_ne h (e▸I.oL)
  zlv:=I.zlv
  olv:=fun a h=>I.olv a (ownC_ne h)
  flv:=fun a f=>f.elim (I.flv a) fun e=>let ⟨m,o,_,_,h,hd,_⟩:=I.nsL; ⟨o,e▸h,fun vs q=>by rw [hd] at q; cases q⟩
set_option tactic.hygienic true in
theorem call_slots (I:Inv B y own Z s.heap fr) {h₀:Heap} (hr:RvsAt y own Z h₀ s.heap rs vs) (hs:argSlots fr rs=some ss) (nd:(roots rs).Nodup) :SlotsAt (ownC own rs) Z s.heap ss vs:=by
  obtain ⟨hlen,hget⟩:=argSlots_get hs
  refine ⟨by rw [← hlen,hr.length],fun k sl v e e'=>?_⟩
  have hk:k<rs.length:=by rw [hlen]; exact (List.getElem?_eq_some_iff.mp e).1
  obtain ⟨sl',e2,h2⟩:=hget k _ (List.getElem?_eq_getElem hk)
  rw [e] at e2; cases e2
  have q:=hr.get (List.getElem?_eq_getElem hk) e'
  generalize hrk:rs[k]=r at *
  have hrk':rs[k]? = some r:=by rw [List.getElem?_eq_getElem hk,hrk]
  cases r with
  | fz d=>cases h2; exact ⟨(fun n=>by cases n),q⟩
  | own d=>cases h2; exact ⟨(fun n=>by cases n),q⟩
  | pl p=>
    cases p with
    | var i=>
      obtain ⟨l,hl,hv⟩:=q
      have key:∀sl,fr[i]? = some sl→sl≠ .no→SlotV s.heap Z (fun a=>own a=some i) sl v:=fun sl e n=>by
        obtain ⟨l',v',hl',hv',q⟩:=I.at' i sl e n
        rw [hl] at hl'; cases hl'
        obtain rfl:=hv.det hv'
        exact q
      have mo:∀a,own a=some i→ownC own rs a=some k:=fun a e=>by
        unfold ownC; rw [e]; show posOf rs i 0=_; rw [posOf_at nd hrk',Nat.zero_add]
      simp only [argSlot] at h2
      split at h2
      · rename_i d e9; cases h2; exact ⟨(fun n=>by cases n),key _ e9 (by intro n; cases n)⟩
      · rename_i d e9; cases h2; exact ⟨(fun n=>by cases n),(key _ e9 (by intro n; cases n)).mono (fun J U j2_ e=>e) (fun J z=>z) mo fun J U j2_ e=>e⟩
      · rename_i e9; cases h2; exact ⟨(fun n=>by cases n),(key _ e9 (by intro n; cases n)).mono (fun J U j2_ e=>e) (fun J z=>z) mo fun J U j2_ e=>e⟩
      · cases h2
theorem Ns_slots {h h':Heap} {a:Addr} {m:Str→Option Value} (hn:h.Ns a m) (k:∀o,h.get? a=some o→ ∃sl,h'.get? a=some {o with slots:=sl}) :h'.Ns a m:=by
  obtain ⟨o,es,ep,ho,r⟩:=hn
  obtain ⟨sl,e⟩:=k o ho
  exact ⟨_,es,ep,e,r⟩
theorem copyOut_get {own':Addr→Option Nat} {Z':Addr→Prop} {h:Heap} :∀ {rs:List Rv} {ss outs:List Slot} {vs:List Value} {fr:Fm} {k j:Nat} {sl:Slot},OutsAt own' Z' h k ss vs outs→rs.length=ss.length→ss.length=vs.length→
    (∀(m:Nat) (r:Rv) (sl:Slot),rs[m]? = some r→ss[m]? = some sl→sl.lent=true→ ∃i,r = .pl (.var i))→(copyOut fr rs ss outs)[j]? = some sl→
    (∃(m:Nat) (s0:Slot) (v:Value),rs[m]? = some (.pl (.var j))∧ss[m]? = some s0∧s0.lent=true∧vs[m]? = some v∧(sl≠ .no→SlotV h Z' (fun a=>own' a=some (k+m)) sl v))∨(fr[j]? = some sl∧((roots rs).Nodup→ ∀(m:Nat) (s0:Slot),rs[m]? = some (.pl (.var j))→ss[m]? = some s0→s0.lent=false))
  | [],ss,outs,vs,fr,k,j,sl,_,_,_,_,e=>by
    refine .inr ⟨?_,fun J m s0 e=>by simp at e⟩
    simpa [copyOut] using e
  | r::rs,[],_,_,_,_,_,_,_,h,_,_,_=>by simp at h
  | r::rs,s0::ss,outs,[],_,_,_,_,_,_,h,_,_=>by simp at h
  | r::rs,s0::ss,outs,v::vs,fr,k,j,sl,O,h1,h2,hl,e=>by
    have h1':rs.length=ss.length:=by simpa using h1
    have h2':ss.length=vs.length:=by simpa using h2
    have hl':∀(m:Nat) (r:Rv) (sl:Slot),rs[m]? = some r→ss[m]? = some sl→sl.lent=true→ ∃i,r = .pl (.var i):=fun m r sl e1 e2=>hl (m+1) r sl (by simpa using e1) (by simpa using e2)
    unfold OutsAt at O
    unfold copyOut at e
    by_cases q:s0.lent=true
    · rw [if_pos q] at O
      obtain ⟨o,os,rfl,hv,O⟩:=O
      obtain ⟨i,rfl⟩:=hl 0 r s0 rfl rfl q
      rw [if_pos q] at e
      dsimp only at e
      rcases copyOut_get O h1' h2' hl' e with ⟨m,s1,v',a1,a2,a3,a4,a5⟩ | ⟨a1,a2⟩
      · exact .inl ⟨m+1,s1,v',by simpa using a1,by simpa using a2,a3,by simpa using a4,fun n=>by have:=a5 n; rwa [show k+1+m=k+(m+1) from by exact (Nat.le_antisymm (lin [k,m] [] 1 (.nle (.a (.a (.v 0) (.c 1)) (.v 1)) (.a (.v 0) (.a (.v 1) (.c 1)))) [] rfl) (lin [k,m] [] 1 (.nle (.a (.v 0) (.a (.v 1) (.c 1))) (.a (.a (.v 0) (.c 1)) (.v 1))) [] rfl))] at this⟩
      · rcases set_get a1 with ⟨rfl,rfl⟩ | ⟨hne,a1⟩
        · exact .inl ⟨0,s0,v,rfl,rfl,q,rfl,hv⟩
        · refine .inr ⟨a1,fun nd m s1 e1 e2=>?_⟩
          cases m with
          | zero=>cases Option.some.inj (show some (Rv.pl (.var _))=some (Rv.pl (.var _)) from e1); exact absurd rfl hne
          | succ m=>exact a2 (by simp only [roots,List.nodup_cons] at nd; exact nd.2) m s1 (by simpa using e1) (by simpa using e2)
    · rw [if_neg q] at O e
      rcases copyOut_get O h1' h2' hl' e with ⟨m,s1,v',a1,a2,a3,a4,a5⟩ | ⟨a1,a2⟩
      · exact .inl ⟨m+1,s1,v',by simpa using a1,by simpa using a2,a3,by simpa using a4,fun n=>by have:=a5 n; rwa [show k+1+m=k+(m+1) from by exact (Nat.le_antisymm (lin [k,m] [] 1 (.nle (.a (.a (.v 0) (.c 1)) (.v 1)) (.a (.v 0) (.a (.v 1) (.c 1)))) [] rfl) (lin [k,m] [] 1 (.nle (.a (.v 0) (.a (.v 1) (.c 1))) (.a (.a (.v 0) (.c 1)) (.v 1))) [] rfl))] at this⟩
      · refine .inr ⟨a1,fun nd m s1 e1 e2=>?_⟩
        cases m with
        | zero=>simp at e2; subst e2; simpa using q
        | succ m=>
          refine a2 ?_ m s1 (by simpa using e1) (by simpa using e2)
          cases r with
          | pl p=>
            cases p with
            | var i=>simp only [roots,List.nodup_cons] at nd; exact nd.2
          | fz _=>simpa [roots] using nd
          | own _=>simpa [roots] using nd
end
end Mv
end
section
namespace Mv
open PySem PyProof.Rows
variable [Hp]
section
variable {B:Heap} {y:Lay} {own:Addr→Option Nat} {Z:Addr→Prop} {s s':Shared} {fr:Fm} {rs:List Rv} {ss outs:List Slot} {vs:List Value}
set_option tactic.hygienic true in
theorem ownB_some {own ownN:Addr→Option Nat} {rs:List Rv} {a:Addr} {i:Nat} (h:ownB own ownN rs a=some i) :(∃k,ownN a=some k∧rs[k]? = some (.pl (.var i)))∨(ownN a=none∧own a=some i∧posOf rs i 0=none):=by
  unfold ownB at h
  split at h
  · rename_i k hk
    unfold rootAt at h
    split at h
    · rename_i j hj; cases h; exact .inl ⟨k,hk,hj⟩
    · cases h
  · rename_i hk
    split at h
    · rename_i j hj
      split at h
      · cases h
      · rename_i hp; cases h; exact .inr ⟨hk,hj,hp⟩
    · cases h
theorem call_back {res:Except Str Rv} {r:Result} (I:Inv B y own Z s.heap fr) {h₀:Heap} (hr:RvsAt y own Z h₀ s.heap rs vs) (hs:argSlots fr rs=some ss) (nd:(roots rs).Nodup)
    (P:CallPost B (fun a=>y.F a∨a=y.L) (ownC own rs) Z s ss vs res outs r s') :
    ∃own' Z',Inv B y own' Z' s'.heap (copyOut fr rs ss outs)∧Step y [] own Z s own' Z' s'∧((∃rv v,res = .ok rv∧r = .ok (.ret v)∧RvAt y own' Z' s.heap s'.heap rv v)∨
      ∃nm a,res = .error nm∧r = .error (.ref a)∧ExcIs B s'.heap (fun b=>s.heap.get? b=none∧ ¬y.wr own' b∧ ¬y.F b∧ ¬Z' b) a nm):=by
  obtain ⟨ownN,Z',G,S,O,R⟩:=P
  obtain ⟨hlen,hget⟩:=argSlots_get hs
  have hlen':ss.length=vs.length:=by rw [← hlen,hr.length]
  -- what stays
  have nwr:∀a,own a=none→ ¬((fun a=>ownC own rs a≠none) a):=fun a e q=>ownC_ne q e
  have keep:∀a o,s.heap.get? a=some o→own a=none→ ¬y.F a→a≠y.L→s'.heap.get? a=some o:=fun a o e n f l=>S.ext.keep a o e (nwr a n) fun q=>q.elim f l
  have keepC:∀a o,s.heap.get? a=some o→ownC own rs a=none→ ¬y.F a→a≠y.L→s'.heap.get? a=some o:=fun a o e n f l=>S.ext.keep a o e (fun q=>q n) fun q=>q.elim f l
  have keepZ:∀a o,Z a→s.heap.get? a=some o→s'.heap.get? a=some o:=fun a o z e=>keep a o e (I.zo a z) (I.zF a z) fun q=>I.zL (q▸z)
  have slL:∀o,s.heap.get? y.L=some o→ ∃sl,s'.heap.get? y.L=some {o with slots:=sl}:=fun o e=>S.ext.fram y.L o (.inr rfl) e
  have rdk:∀i l v,y.loc i=some l→rdL s.heap l v→rdL s'.heap l v:=fun i l v hl hv=>by
    by_cases q:l.addr=y.L
    · cases l with
      | dict a x=>
        obtain ⟨m,hn,hm⟩:=hv
        have q':a=y.L:=q
        subst q'
        exact ⟨m,Ns_slots hn slL,hm⟩
      | cell a=>exact absurd q (I.wf.cl i a hl)
    · exact hv.keeps fun o e=>keep _ o e (I.ol i l hl) (I.wf.nf i l hl) q
  have okk:∀i l,y.loc i=some l→okL s.heap l→okL s'.heap l:=fun i l hl hv=>by
    by_cases q:l.addr=y.L
    · cases l with
      | dict a x=>
        obtain ⟨m,hn⟩:=hv
        have q':a=y.L:=q
        subst q'
        exact ⟨m,Ns_slots hn slL⟩
      | cell a=>exact absurd q (I.wf.cl i a hl)
    · exact hv.keeps fun o e=>keep _ o e (I.ol i l hl) (I.wf.nf i l hl) q
  have nN:∀a o,s.heap.get? a=some o→ownC own rs a=none→ownN a=none:=fun a o e n=>by
    cases q:ownN a with
    | none=>rfl
    | some k=>
      rcases S.on a k q with q | q
      · rw [n] at q; cases q
      · rw [e] at q; cases q
  have oB:∀a i,ownB own ownN rs a=some i→own a=some i∨s.heap.get? a=none:=fun a i q=>by
    rcases ownB_some q with ⟨k,hk,hj⟩ | ⟨_,q,_⟩
    · rcases S.on a k hk with q | q
      · obtain ⟨i',hi,hp⟩:=ownC_some q
        have:=posOf_at (k:=0) nd hj
        rw [Nat.zero_add] at this
        obtain ⟨_,h2⟩:=posOf_get hp
        rw [Nat.sub_zero,hj] at h2
        cases h2
        exact .inl hi
      · exact .inr q
    · exact .inl q
  have oBn:∀a,ownB own ownN rs a≠none→own a≠none∨s.heap.get? a=none:=fun a q=>by
    cases e:ownB own ownN rs a with
    | none=>exact absurd e q
    | some i=>exact (oB a i e).imp (fun h=>by rw [h]; exact fun n=>by cases n) id
  have oBk:∀a,ownB own ownN rs a≠none→ownN a≠none∨(ownC own rs a=none∧own a≠none):=fun a q=>by
    cases e:ownB own ownN rs a with
    | none=>exact absurd e q
    | some i=>
      rcases ownB_some e with ⟨k,hk,_⟩ | ⟨_,h,hp⟩
      · exact .inl (by rw [hk]; exact fun n=>by cases n)
      · exact .inr ⟨by unfold ownC; rw [h]; exact hp,by rw [h]; exact fun n=>by cases n⟩
  have zn:∀a,Z' a→Z a∨own a≠none∨s.heap.get? a=none:=fun a z=>(S.zn a z).imp id fun q=>q.imp ownC_ne id
  have live:∀a o,s.heap.get? a=some o→ ∃o',s'.heap.get? a=some o':=S.ext.live
  have wf':=I.wf
  have inv:Inv B y (ownB own ownN rs) Z' s'.heap (copyOut fr rs ss outs):=by
    refine ⟨I.wf,G.base,G.zb,fun a z=>?_,fun i l hl z=>?_,fun i l hl=>?_,fun z=>?_,?_,fun a z f=>G.zF a z (.inl f),fun a q f=>?_,G.zlv,fun a q=>?_,fun a f=>G.flv a (.inl f),fun i l hl=>okk i l hl (I.ok i l hl),?_,fun j sl e n=>?_⟩
    · -- zo
      cases q:ownB own ownN rs a with
      | none=>rfl
      | some i=>
        rcases ownB_some q with ⟨k,hk,_⟩ | ⟨hN,ho,hp⟩
        · rw [G.zo a z] at hk; cases hk
        · rcases S.zn a z with z | z | z
          · rw [I.zo a z] at ho; cases ho
          · exact absurd (by unfold ownC; rw [ho]; exact hp) z
          · obtain ⟨o,e⟩:=I.olv a (by rw [ho]; exact fun n=>by cases n); rw [z] at e; cases e
    · -- zl
      obtain ⟨o,e⟩:=(I.ok i l hl).live
      rcases S.zn _ z with z | z | z
      · exact I.zl i l hl z
      · exact ownC_ne z (I.ol i l hl)
      · rw [z] at e; cases e
    · -- ol
      cases q:ownB own ownN rs l.addr with
      | none=>rfl
      | some k=>
        obtain ⟨o,e⟩:=(I.ok i l hl).live
        rcases oB _ _ q with q | q
        · rw [I.ol i l hl] at q; cases q
        · rw [q] at e; cases e
    · exact G.zF _ z (.inr rfl)
    · cases q:ownB own ownN rs y.L with
      | none=>rfl
      | some k=>
        obtain ⟨m,o,_,_,e,_⟩:=I.nsL
        rcases oB _ _ q with q | q
        · rw [I.oL] at q; cases q
        · rw [q] at e; cases e
    · rcases oBk a q with q | ⟨q,q'⟩
      · exact G.oF a q (.inl f)
      · exact I.oF a q' f
    · rcases oBk a q with q | ⟨q,q'⟩
      · exact G.olv a q
      · obtain ⟨o,e⟩:=I.olv a q'; exact live a o e
    · obtain ⟨m,hn⟩:=I.nsL; exact ⟨m,Ns_slots hn slL⟩
    · -- the slots
      rcases copyOut_get O hlen hlen' (fun m r sl e1 e2 hl=>by
        obtain ⟨sl',e3,h3⟩:=hget m r e1
        rw [e2] at e3; cases e3
        obtain ⟨i,h,_⟩:=argSlot_lent h3 hl
        exact ⟨i,h⟩) e with ⟨m,s0,v',a1,a2,a3,a4,a5⟩ | ⟨a1,a2⟩
      · have q:=hr.get a1 a4
        obtain ⟨l,hl,hv⟩:=q
        refine ⟨l,v',hl,rdk j l v' hl hv,(a5 n).mono (fun J U j2_ e=>e) (fun J z=>z) (fun b hb=>?_) fun J U j2_ e=>e⟩
        rw [Nat.zero_add] at hb
        show ownB own ownN rs b=some j
        unfold ownB; rw [hb]; dsimp only; unfold rootAt; rw [a1]
      · obtain ⟨l,v',hl,hv,q⟩:=I.at' j sl a1 n
        refine ⟨l,v',hl,rdk j l v' hl hv,?_⟩
        cases sl with
        | no=>exact absurd rfl n
        | fz d=>exact Rep.mono keepZ S.zm q
        | own d=>
          obtain ⟨a,rfl,oa,w⟩:=q
          have oa':own a=some j:=oa
          obtain ⟨o,ho⟩:=w.live
          have hp:posOf rs j 0=none:=by
            cases q:posOf rs j 0 with
            | none=>rfl
            | some m=>
              obtain ⟨_,h2⟩:=posOf_get q
              rw [Nat.sub_zero] at h2
              obtain ⟨s1,e1,h1⟩:=hget m _ h2
              have:s1 = .own d:=by simp only [argSlot,a1] at h1; exact (Option.some.inj h1).symm
              subst this
              exact absurd (a2 nd m _ h2 e1) (by intro q; cases q)
          have hC:ownC own rs a=none:=by unfold ownC; rw [oa']; exact hp
          refine ⟨a,rfl,?_,w.mono keepZ S.zm fun o e=>keepC a o e hC (I.oF a (by rw [oa']; exact fun n=>by cases n)) fun q=>by rw [q,I.oL] at oa'; cases oa'⟩
          show ownB own ownN rs a=some j
          unfold ownB; rw [nN a o ho hC,oa']; dsimp only; rw [hp]
        | exc k=>exact SlotV.mono (sl:=.exc k) (O:=fun J=>False) keepZ S.zm (fun J f=>f.elim) (fun J U f=>f.elim) q
  have nwB:∀a,s.heap.get? a=none→ownN a=none→ ¬y.wr (ownB own ownN rs) a:=fun a e0 on wr=>by
    have f:=I.fresh e0
    rcases wr with wr | wr | wr
    · rcases oBk a wr with q | ⟨_,q⟩
      · exact q on
      · exact f.1 (.inl q)
    · exact f.1 (.inr (.inl wr))
    · exact f.1 (.inr (.inr wr))
  refine ⟨ownB own ownN rs,Z',inv,⟨S.sh,⟨fun a o e nw nf=>?_,live,fun a o f e=>S.ext.fram a o (.inl f) e⟩,S.zm,zn,oB,fun i l v J hl hv=>rdk i l v hl hv⟩,?_⟩
  · refine keep a o e ?_ nf fun q=>nw (.inr (.inl q))
    cases q:own a with
    | none=>rfl
    | some i=>exact absurd (.inl (by rw [q]; exact fun n=>by cases n)) nw
  · rcases R with ⟨rv,v,e1,e2,R⟩ | ⟨nm,a,e1,e2,X⟩
    · refine .inl ⟨rv,v,e1,e2,?_⟩
      cases rv with
      | fz d=>exact R
      | own d=>
        obtain ⟨a,rfl,e0,on,nf,nz,w⟩:=R
        exact ⟨a,rfl,e0,nwB a e0 on,fun q=>nf (.inl q),nz,w⟩
      | pl p=>exact R.elim
    · exact .inr ⟨nm,a,e1,e2,X.mono fun b _ _ ⟨h1,h2,h3,h4⟩=>⟨h1,nwB b h1 h2,fun q=>h3 (.inl q),h4⟩⟩
end
end Mv
end
section
namespace Mv
open PySem PyProof.Rows
variable [Hp]
inductive PostX {β:Type} (B:Heap) (y:Lay) (bv:List Nat) (own:Addr→Option Nat) (Z:Addr→Prop) (s:Shared) (out:Except Str β×Fm) (e:Value) (s':Shared) :Prop
  | mk (nm:Str) (a:Addr) (own':Addr→Option Nat) (Z':Addr→Prop) :out.1 = .error nm→e = .ref a→Inv B y own' Z' s'.heap out.2→Step y bv own Z s own' Z' s'→ExcIs B s'.heap (fun b=>s.heap.get? b=none∧ ¬y.wr own' b∧ ¬y.F b∧ ¬Z' b) a nm→PostX B y bv own Z s out e s'
section
variable {B:Heap} {y:Lay} {bv bv':List Nat} {own own₁:Addr→Option Nat} {Z Z₁:Addr→Prop} {s s₁ s':Shared} {e:Value}
theorem PostX.elim {β:Type} {p:Prop} {r:β} {f:Fm} (x:PostX B y bv own Z s ((.ok r:Except Str β),f) e s') :p:=by
  obtain ⟨_,_,_,_,q,_⟩:=x; cases q
theorem PostX.up {β γ:Type} {nm:Str} {f:Fm} (hb:∀i∈bv,i∈bv') (S:Step y bv' own Z s own₁ Z₁ s₁) (x:PostX B y bv own₁ Z₁ s₁ ((.error nm:Except Str β),f) e s') :PostX B y bv' own Z s ((.error nm:Except Str γ),f) e s':=by
  obtain ⟨nm',a,own',Z',q,e1,I,S',X⟩:=x
  cases q
  exact ⟨_,a,own',Z',rfl,e1,I,S.trans (S'.sub hb),X.mono fun b J U h=>⟨S.old b h.1,h.2⟩⟩
theorem PostX.sub {β:Type} {out:Except Str β×Fm} (hb:∀i∈bv,i∈bv') (S:Step y bv' own Z s own₁ Z₁ s₁) (x:PostX B y bv own₁ Z₁ s₁ out e s') :PostX B y bv' own Z s out e s':=by
  obtain ⟨nm,a,own',Z',q,e1,I,S',X⟩:=x
  exact ⟨nm,a,own',Z',q,e1,I,S.trans (S'.sub hb),X.mono fun b J U h=>⟨S.old b h.1,h.2⟩⟩
end
structure Rn (A:Around) (B:Heap) (mg mb:Str→Option Value) (tb:Tb) (c:Cfg) (n:Nat) :Prop where
  gd:Gd B mg mb c.glob tb
  cs:CallSpec B mg tb n c.call
  dep:A.depth+n≤999
  un:A.units+4*n≤4000
  hh:c.hd=false→A.handled=none
section
variable {c:Cfg}
theorem evAnd_val:∀ {es:List Ex} {fr fr':Fm} {r:Rv},evAnd c es fr=some (.ok r,fr')→ ∃d,rvV r=some d
  | [],_,_,_,h=>by cases h
  | [e],fr,fr',r,h=>by
    rw [evAnd_one] at h
    rcases bnd_some h with ⟨_,_,_,q⟩ | ⟨a,f,_,q⟩
    · cases q
    · split at q
      · cases q
      · cases q; exact ⟨_,by assumption⟩
  | e::e'::es,fr,fr',r,h=>by
    rw [evAnd_cons] at h
    rcases bnd_some h with ⟨_,_,_,q⟩ | ⟨a,f,_,q⟩
    · cases q
    · split at q
      · cases q
      · split at q
        · exact evAnd_val q
        · cases q; exact ⟨_,by assumption⟩
theorem evOr_val:∀ {es:List Ex} {fr fr':Fm} {r:Rv},evOr c es fr=some (.ok r,fr')→ ∃d,rvV r=some d
  | [],_,_,_,h=>by cases h
  | [e],fr,fr',r,h=>by
    rw [evOr_one] at h
    rcases bnd_some h with ⟨_,_,_,q⟩ | ⟨a,f,_,q⟩
    · cases q
    · split at q
      · cases q
      · cases q; exact ⟨_,by assumption⟩
  | e::e'::es,fr,fr',r,h=>by
    rw [evOr_cons] at h
    rcases bnd_some h with ⟨_,_,_,q⟩ | ⟨a,f,_,q⟩
    · cases q
    · split at q
      · cases q
      · split at q
        · cases q; exact ⟨_,by assumption⟩
        · exact evOr_val q
noncomputable def VO (m:Out Rv) :Prop:= ∀r fr',m=some (.ok r,fr')→ ∃d,rvV r=some d
namespace VO
variable {fr:Fm}
theorem no:VO none:=fun J U h=>nos h
theorem fz {d:D} :VO (some (.ok (.fz d),fr)):=fun J U h=>by cases h; exact ⟨_,rfl⟩
theorem own {d:D} :VO (some (.ok (.own d),fr)):=fun J U h=>by cases h; exact ⟨_,rfl⟩
theorem err {e:Str} :VO (some (.error e,fr)):=fun J U h=>by cases h
theorem bd {α:Type} {m:Out α} {k:α→Fm→Out Rv} (h:∀a fr,VO (k a fr)) :VO (bndK m k):=by
  rcases m with _ | ⟨_ | a,f⟩
  · exact no
  · exact err
  · exact h a f
theorem bdN {α:Type} {m:Out α} {k:α→Fm→Out Rv} (h:∀a fr,VO (k a fr)) :VO (bndNK m k):=by
  rcases m with _ | ⟨_ | a,f⟩
  · exact no
  · exact no
  · exact h a f
theorem okv {m:Option Rv} :VO (okV fr m):=by
  rcases m with _ | ⟨_ | _ | _⟩
  · exact no
  · exact fz
  · exact own
  · exact no
theorem okf {α:Type} {f:α→D} {m:Option α} :VO (okO fr (m.map fun a=>Rv.fz (f a))):=by
  cases m with
  | none=>exact no
  | some a=>exact fz
theorem okl {α:Type} {f:α→D} {m:Option α} :VO (okO fr (m.map fun a=>Rv.own (f a))):=by
  cases m with
  | none=>exact no
  | some a=>exact own
theorem it {p:Prop} [Decidable p] {a b:Out Rv} (h:VO a) (k:VO b) :VO (if p then a else b):=by
  by_cases q:p
  · rw [if_pos q]; exact h
  · rw [if_neg q]; exact k
theorem self {r:Rv} :VO (match rvV r with | none=>none | some _=>some (.ok r,fr)):=by
  rcases r with _ | _ | _
  · exact fz
  · exact own
  · exact no
theorem o1 {α:Type} {o:Option α} {F:Option α→Out Rv} (h:∀a,VO (F (some a))) (k:VO (F none)) :VO (F o):=by
  cases o with
  | none=>exact k
  | some a=>exact h a
end VO
theorem callO_vo {f:Nat} {rs:List Rv} {fr:Fm} :VO (callO c f rs fr):=by
  unfold callO
  cases argSlots fr rs with
  | none=>exact .no
  | some ss=>
    refine .it ?_ .no
    rcases c.call c.hd f ss with _ | ⟨_ | r,o⟩
    · exact .no
    · exact .err
    · exact .self
theorem ev_vo (x:Ex) (fr:Fm) (hx:∀p,x≠ .pl p) :VO (ev c x fr):=by
  cases x with
  | lit d=>exact .fz
  | gl k=>rw [ev_gl]; cases c.glob[k]? with
    | none=>exact .no
    | some d=>exact .fz
  | var i=>rw [ev_var]; rcases fr[i]? with _ | ⟨_ | _ | _ | _ | _⟩ <;> first | exact .no | exact .fz
  | pl p=>exact absurd rfl (hx p)
  | tup es=>exact .bd fun J U=>.okf
  | list es=>exact .bd fun J U=>.okl
  | op2 o a b=>
    exact .bd fun x J=>.bd fun y fr=>by
      cases rvD fr x <;> cases rvD fr y <;> first | exact .no | exact .okv
  | neg a=>exact .bd fun x J=>by cases rvV x <;> first | exact .no | exact .okf (f:=id)
  | not a=>exact .bd fun x fr=>by cases rvD fr x <;> first | exact .no | exact .fz
  | cmp o a b=>
    exact .bd fun x J=>.bd fun y fr=>by
      cases rvD fr x <;> cases rvD fr y <;> first | exact .no | exact .okf
  | and es=>exact fun J U h=>evAnd_val h
  | or es=>exact fun J U h=>evOr_val h
  | idx a i=>
    exact .bd fun x J=>.bd fun y fr=>by
      cases rvD fr x <;> cases rvV y <;> first | exact .no | exact .okf (f:=id)
  | slc a l u=>
    exact .bd fun x J=>.bd fun y J=>.bd fun z fr=>by
      cases rvD fr x <;> cases rvV y <;> cases rvV z <;> first | exact .no | exact .okv
  | call f args=>exact .bd fun J U=>callO_vo
  | bi b args=>exact .it .no (.bd fun rs fr=>by cases rvDs fr rs <;> first | exact .no | exact .okv)
  | comp elt t it src conds=>
    exact .it .no (.bd fun rs fr=>by
      cases rvVs rs with
      | none=>exact .no
      | some ds=>
        show VO (match iterD it ds with | none=>none | some items=>_)
        cases iterD it ds with
        | none=>exact .no
        | some items=>exact .bdN fun J U=>.own)
  | isx i yes no=>rw [ev_isx]; rcases fr[i]? with _ | ⟨_ | _ | _ | _ | _⟩ <;> first | exact .no | exact .it .fz (.it .fz .no)
theorem ev_val {x:Ex} {fr fr':Fm} {r:Rv} (h:ev c x fr=some (.ok r,fr')) :(∃d,rvV r=some d)∨ ∃p,r = .pl p∧x = .pl p:=by
  by_cases hx:∃p,x = .pl p
  · obtain ⟨p,rfl⟩:=hx
    rw [ev_pl] at h
    by_cases q:plLive fr p=true
    · rw [if_pos q] at h; cases h; exact .inr ⟨p,rfl,rfl⟩
    · rw [if_neg q] at h; exact nos h
  · exact .inl (ev_vo x fr (fun p q=>hx ⟨p,q⟩) r fr' h)
theorem apart_of {x:Ex} {fr fr':Fm} {r:Rv} {bv:List Nat} (h:ev c x fr=some (.ok r,fr')) (ap:Apart x bv) :∀i∈plVars r,i∉bv:=by
  rcases ev_val h with ⟨d,e⟩ | ⟨p,rfl,rfl⟩
  · rw [plVars_of e]; intro i hi; cases hi
  · intro i hi
    refine ap i ?_
    cases p <;> exact hi
end
section
variable {A:Around} {B:Heap} {mg mb:Str→Option Value} {tb:Tb} {c:Cfg} {n:Nat} {env:Env} {sc:Sc} {y:Lay}
  {bv bv':List Nat} {own own₁:Addr→Option Nat} {Z Z₁:Addr→Prop} {s s₁:Shared} {fr fr₁:Fm}
noncomputable def SE (A:Around) (B:Heap) (c:Cfg) (y:Lay) (m:Sem Value) (x:Ex) :Prop:= ∀(own:Addr→Option Nat) (Z:Addr→Prop) (s:Shared) (fr:Fm) (out:Except Str Rv×Fm),ev c x fr=some out→Inv B y own Z s.heap fr→
  wpAny (model prog w) A m (PostE B y (bvE x) own Z s out) (PostX B y (bvE x) own Z s out) s
inductive PostT (B:Heap) (y:Lay) (bv:List Nat) (own:Addr→Option Nat) (Z:Addr→Prop) (s:Shared) (out:Except Str Rv×Fm) (b:Bool) (s':Shared) :Prop
  | mk (r:Rv) (d:D) (own':Addr→Option Nat) (Z':Addr→Prop) :out.1 = .ok r→rvD out.2 r=some d→b=tD d→Inv B y own' Z' s'.heap out.2→Step y bv own Z s own' Z' s'→PostT B y bv own Z s out b s'
noncomputable def ST (A:Around) (B:Heap) (c:Cfg) (y:Lay) (m:Sem Bool) (x:Ex) :Prop:= ∀(own:Addr→Option Nat) (Z:Addr→Prop) (s:Shared) (fr:Fm) (out:Except Str Rv×Fm),ev c x fr=some out→(∀r,out.1 = .ok r→ ∃d,rvD out.2 r=some d)→Inv B y own Z s.heap fr→
  wpAny (model prog w) A m (PostT B y (bvE x) own Z s out) (PostX B y (bvE x) own Z s out) s
theorem seqE {β:Type} {m:Sem Value} {mo:Out Rv} {k:Rv→Fm→Out β} {out:Except Str β×Fm} {Q:Value→Shared→Prop} (hk:bndK mo k=some out) (S:Step y bv' own Z s own₁ Z₁ s₁) (hb:∀i∈bv,i∈bv')
    (H:∀o,mo=some o→wpAny (model prog w) A m (PostE B y bv own₁ Z₁ s₁ o) (PostX B y bv own₁ Z₁ s₁ o) s₁)
    (K:∀r fr₂ own₂ Z₂ s₂ v,mo=some (.ok r,fr₂)→k r fr₂=some out→Inv B y own₂ Z₂ s₂.heap fr₂→Step y bv own₁ Z₁ s₁ own₂ Z₂ s₂→Step y bv' own Z s own₂ Z₂ s₂→RvAt y own₂ Z₂ s₁.heap s₂.heap r v→Q v s₂) :
    wpAny (model prog w) A m Q (PostX B y bv' own Z s out) s₁:=by
  rcases bnd_some hk with ⟨e,f,hm,rfl⟩ | ⟨r,f,hm,hk⟩
  · refine wpAny_mono (H _ hm) (fun v s' p=>?_) fun J U x=>x.up hb S
    obtain ⟨r,_,_,q,_⟩:=p; cases q
  · refine wpAny_mono (H _ hm) (fun v s' p=>?_) fun J U x=>x.elim
    obtain ⟨r',own',Z',q,I,S',R⟩:=p
    cases q
    exact K r f own' Z' s' v hm hk I S' (S.trans (S'.sub hb)) R
theorem seqT {β:Type} {m:Sem Bool} {mo:Out Rv} {k:Rv→Fm→Out β} {out:Except Str β×Fm} {Q:Bool→Shared→Prop} (hk:bndK mo k=some out) (S:Step y bv' own Z s own₁ Z₁ s₁) (hb:∀i∈bv,i∈bv')
    (hd:∀r fr₂,k r fr₂=some out→ ∃d,rvD fr₂ r=some d)
    (H:∀o,mo=some o→(∀r,o.1 = .ok r→ ∃d,rvD o.2 r=some d)→wpAny (model prog w) A m (PostT B y bv own₁ Z₁ s₁ o) (PostX B y bv own₁ Z₁ s₁ o) s₁)
    (K:∀r d fr₂ own₂ Z₂ s₂,k r fr₂=some out→rvD fr₂ r=some d→Inv B y own₂ Z₂ s₂.heap fr₂→Step y bv own₁ Z₁ s₁ own₂ Z₂ s₂→Step y bv' own Z s own₂ Z₂ s₂→Q (tD d) s₂) :
    wpAny (model prog w) A m Q (PostX B y bv' own Z s out) s₁:=by
  rcases bnd_some hk with ⟨e,f,hm,rfl⟩ | ⟨r,f,hm,hk⟩
  · refine wpAny_mono (H _ hm fun r q=>by cases q) (fun v s' p=>?_) fun J U x=>x.up hb S
    obtain ⟨r,_,_,_,q,_⟩:=p; cases q
  · refine wpAny_mono (H _ hm fun r' q=>by cases q; exact hd r f hk) (fun v s' p=>?_) fun J U x=>x.elim
    obtain ⟨r',d,own',Z',q,e,rfl,I,S'⟩:=p
    cases q
    exact K r d f own' Z' s' hk e I S' (S.trans (S'.sub hb))
theorem toks_step {tk:Nat} (S:Step y bv own Z s own₁ Z₁ s₁) :Step y bv own Z s own₁ Z₁ {s₁ with toks:=tk}:=
  S.trans (Step.grow (tk:=tk) (fun J U e=>e))
theorem ST.of {e:Expr} {x:Ex} (H:SE A B c y (eval e env) x) (he:isTrue e env (eval e env)=(do let v ← eval e env; standAt e.pos; holding [v] (truthy v))) :ST A B c y (isTrue e env (eval e env)) x:=by
  intro own Z s fr out h hd I
  refine isTrue_plain (wpAny_mono (H own Z s fr out h I) (fun v s' p=>?_) fun J U x=>x) he
  obtain ⟨r,own',Z',e,I',S,R⟩:=p
  obtain ⟨d,hr⟩:=hd r e
  exact op_truth (R.dat I' hr) fun tk=>⟨r,d,own',Z',e,hr,rfl,I',toks_step S⟩
theorem se_lit {k:Const} {kk:Nat} {pos:Pos} {d:D} (hk:ConstIs k d) :SE A B c y (eval (.Constant k kk pos) env) (.lit d):=by
  intro own Z s fr out h I
  cases h
  cases hk with
  | none=>exact wpAny_Constant_none (.val I .refl .none)
  | bool b=>exact wpAny_Constant_bool (.val I .refl (.bool b))
  | int i=>exact wpAny_Constant_int (.val (s':= {s with toks:=s.toks+1}) I (toks_step .refl) (.int i _))
  | str x hx hz=>exact wpAny_Constant_str (.val (s':= {s with toks:=s.toks+1}) I (toks_step .refl) (.str x _ hx hz))
set_option tactic.hygienic true in
theorem se_gl {x:Str} {pos:Pos} {k:Nat} (R:Rn A B mg mb tb c n) (en:EnvOk A sc env y) (hx:sc.isG x) (hk:tb.gl[k]? = some x) :SE A B c y (eval (.Name x pos) env) (.gl k):=by
  intro own Z s fr out h I
  rw [ev_gl] at h
  split at h
  · rename_i d hd
    cases h
    obtain ⟨v,hv,hr⟩:=R.gd.gl k x d hk hd
    exact load_glob R.gd en I hx hv (.val I .refl (hr _ _ I.base I.zb))
  · cases h
set_option tactic.hygienic true in
theorem se_var {x:Str} {pos:Pos} {i:Nat} (en:EnvOk A sc env y) (hx:sc.isV x i) :SE A B c y (eval (.Name x pos) env) (.var i):=by
  intro own Z s fr out h I
  rw [ev_var] at h
  split at h
  · rename_i d hd
    cases h
    obtain ⟨l,v,hl,hr,q⟩:=I.at' i _ hd (by intro n; cases n)
    exact load_var en hx hl hr (.val I .refl q)
  · rename_i d hd
    cases h
    obtain ⟨l,a,hl,hr,oa,q,I'⟩:=I.freeze hd
    exact load_var en hx hl hr (.val I' (.freeze oa) q)
  · cases h
set_option tactic.hygienic true in
theorem se_pl {x:Str} {pos:Pos} {i:Nat} (en:EnvOk A sc env y) (hx:sc.isV x i) :SE A B c y (eval (.Name x pos) env) (.pl (.var i)):=by
  intro own Z s fr out h I
  rw [ev_pl] at h
  split at h
  · rename_i hl
    cases h
    simp only [plLive] at hl
    split at hl
    · rename_i sl e
      obtain ⟨l,v,hl,hr,q⟩:=I.at' i _ e (by rintro rfl; cases hl)
      exact load_var en hx hl hr ⟨_,own,Z,rfl,I,.refl,l,hl,hr⟩
    · cases hl
  · cases h
end
end Mv
end
section
namespace Mv
open PySem PyProof.Rows
variable [Hp]
section
variable {A:Around} {B:Heap} {mg mb:Str→Option Value} {tb:Tb} {c:Cfg} {n:Nat} {env:Env} {sc:Sc} {y:Lay}
  {bv bv':List Nat} {own own₁:Addr→Option Nat} {Z Z₁:Addr→Prop} {s s₁:Shared} {fr fr₁:Fm}
theorem Rn.cl (R:Rn A B mg mb tb c n) :A.units+66<cLine:=by
  have:=R.un
  show A.units+66<9900
  exact (lin [A.5,n] [] 1 (.nle (.a (.a (.v 0) (.c 66)) (.c 1)) (.c 9900)) [(1,.nle (.a (.v 0) (.m 4 (.v 1))) (.c 4000))] rfl this)
theorem inl_ {a b:List Nat} :∀i∈a,i∈a++b:=fun i h=>List.mem_append_left _ h
theorem inr_ {a b:List Nat} :∀i∈b,i∈a++b:=fun i h=>List.mem_append_right _ h
set_option tactic.hygienic true in
theorem se_op2 {ea eb:Expr} {o:Op2} {xa xb:Ex} {pos:Pos} (Ha:SE A B c y (eval ea env) xa) (Hb:SE A B c y (eval eb env) xb) (ap:Apart xa (bvE xb)) :SE A B c y (eval (.BinOp ea (opOf o) eb pos) env) (.op2 o xa xb):=by
  intro own Z s fr out h I
  rw [ev_op2] at h
  refine wpAny_BinOp (seqE (bv:=bvE xa) (bv':=bvE xa++bvE xb) h .refl inl_ (fun o e=>Ha own Z s fr o e I) fun r fr₁ own₁ Z₁ s₁ v e₁ h I₁ S₁ S R=>?_)
  refine seqE (bv:=bvE xb) h S inr_ (fun o e=>Hb own₁ Z₁ s₁ fr₁ o e I₁) fun r' fr₂ own₂ Z₂ s₂ v' e₂ h I₂ S₂ S R'=>?_
  have R2:=S₂.rv I₁ (apart_of e₁ ap) R
  split at h
  · rename_i d e hd he
    obtain ⟨q,hq,rfl⟩:=okV_eq h
    exact wpAny_mono (E:=PostX B y (bvE xa++bvE xb) own Z s (.ok q,fr₂)) (op_bin (by cases o <;> rfl) hq (R2.dat I₂ hd) (R'.dat I₂ he)) (fun v s' p=>p.post I₂ S) fun J U x=>x
  · cases h
set_option tactic.hygienic true in
theorem se_neg {ea:Expr} {xa:Ex} {pos:Pos} (Ha:SE A B c y (eval ea env) xa) :SE A B c y (eval (.UnaryOp .USub ea pos) env) (.neg xa):=by
  intro own Z s fr out h I
  rw [ev_neg] at h
  refine UnaryOp_ (seqE (bv:=bvE xa) h .refl (fun J h=>h) (fun o e=>Ha own Z s fr o e I) fun r fr₁ own₁ Z₁ s₁ v e₁ h I₁ S₁ S R=>?_)
  split at h
  · rename_i d hd
    obtain ⟨q,hq,rfl⟩:=okO_eq h
    rw [Option.map_eq_some_iff] at hq; obtain ⟨e,he,rfl⟩:=hq
    have hd':rvD fr₁ r=some d:=by cases r <;> first | exact hd | cases hd
    exact wpAny_mono (op_neg he (R.dat I₁ hd')) (fun v s' p=>p.post I₁ S) fun J U x=>x
  · cases h
set_option tactic.hygienic true in
theorem se_not {ea:Expr} {xa:Ex} {pos:Pos} (Ha:SE A B c y (eval ea env) xa) :SE A B c y (eval (.UnaryOp .Not ea pos) env) (.not xa):=by
  intro own Z s fr out h I
  rw [ev_not] at h
  refine UnaryOp_ (seqE (bv:=bvE xa) h .refl (fun J h=>h) (fun o e=>Ha own Z s fr o e I) fun r fr₁ own₁ Z₁ s₁ v e₁ h I₁ S₁ S R=>?_)
  split at h
  · rename_i d hd
    cases h
    exact wpAny_mono (op_not (R.dat I₁ hd)) (fun v s' p=>p.post I₁ S) fun J U x=>x
  · cases h
theorem st_not {ea:Expr} {xa:Ex} {pos:Pos} {whole:Sem Value} (Ha:ST A B c y (isTrue ea env (eval ea env)) xa) :ST A B c y (isTrue (.UnaryOp .Not ea pos) env whole) (.not xa):=by
  intro own Z s fr out h _ I
  rw [ev_not] at h
  refine isTrue_not (seqT (bv:=bvE xa) h .refl (fun J h=>h) (fun r fr₂ h=>?_) (fun o e hd=>Ha own Z s fr o e hd I) fun r d fr₁ own₁ Z₁ s₁ h hd I₁ S₁ S=>?_)
  · split at h
    · exact ⟨_,by assumption⟩
    · cases h
  · rw [hd] at h
    cases h
    exact ⟨_,_,own₁,Z₁,rfl,rfl,rfl,I₁,S⟩
set_option tactic.hygienic true in
theorem se_cmp {ea eb:Expr} {o:Cm} {xa xb:Ex} {pos:Pos} (R:Rn A B mg mb tb c n) (Ha:SE A B c y (eval ea env) xa) (Hb:SE A B c y (eval eb env) xb) (ap:Apart xa (bvE xb)) (hm:behindInMarks (cmOp o) eb=false) :SE A B c y (eval (.Compare ea [cmOp o] [eb] pos) env) (.cmp o xa xb):=by
  intro own Z s fr out h I
  rw [ev_cmp] at h
  refine wpAny_Compare1 (seqE (bv:=bvE xa) (bv':=bvE xa++bvE xb) h .refl inl_ (fun o e=>Ha own Z s fr o e I) fun r fr₁ own₁ Z₁ s₁ v e₁ h I₁ S₁ S R1=>?_) hm
  refine seqE (bv:=bvE xb) h S inr_ (fun o e=>Hb own₁ Z₁ s₁ fr₁ o e I₁) fun r' fr₂ own₂ Z₂ s₂ v' e₂ h I₂ S₂ S R'=>?_
  have R2:=S₂.rv I₁ (apart_of e₁ ap) R1
  split at h
  · rename_i d e hd he
    obtain ⟨q,hq,rfl⟩:=okO_eq h
    rw [Option.map_eq_some_iff] at hq; obtain ⟨b,hb,rfl⟩:=hq
    exact wpAny_mono (op_cmp hb (R2.dat I₂ hd) (R'.dat I₂ he) R.cl) (fun v s' p=>p.post I₂ S) fun J U x=>x
  · cases h
theorem Op.boolV {Z:Addr→Prop} {s s':Shared} {b:Bool} {v:Value} (p:Op Z s (.fz (.bool b)) v s') :v = .bool b∧ ∃h' tk,s'={s with heap:=h',toks:=tk}∧ ∀a o,s.heap.get? a=some o→h'.get? a=some o:=by
  obtain ⟨h',tk,rfl,k,q⟩:=p
  cases q with
  | old R=>exact ⟨Dat.bool (.inl R),h',tk,rfl,k⟩
  | new e e' R=>exact ⟨Dat.bool (.inl R),h',tk,rfl,k⟩
set_option tactic.hygienic true in
theorem st_cmp {ea eb:Expr} {o:Cm} {xa xb:Ex} {pos:Pos} {whole:Sem Value} (R:Rn A B mg mb tb c n) (Ha:SE A B c y (eval ea env) xa) (Hb:SE A B c y (eval eb env) xb) (ap:Apart xa (bvE xb)) (hm:behindInMarks (cmOp o) eb=false) :ST A B c y (isTrue (.Compare ea [cmOp o] [eb] pos) env whole) (.cmp o xa xb):=by
  intro own Z s fr out h _ I
  rw [ev_cmp] at h
  refine wpAny_isTrue_Compare1 (seqE (bv:=bvE xa) (bv':=bvE xa++bvE xb) h .refl inl_ (fun o e=>Ha own Z s fr o e I) fun r fr₁ own₁ Z₁ s₁ v e₁ h I₁ S₁ S R1=>?_) hm
  refine seqE (bv:=bvE xb) h S inr_ (fun o e=>Hb own₁ Z₁ s₁ fr₁ o e I₁) fun r' fr₂ own₂ Z₂ s₂ v' e₂ h I₂ S₂ S R'=>?_
  have R2:=S₂.rv I₁ (apart_of e₁ ap) R1
  split at h
  · rename_i d e hd he
    obtain ⟨q,hq,rfl⟩:=okO_eq h
    rw [Option.map_eq_some_iff] at hq; obtain ⟨b,hb,rfl⟩:=hq
    refine wpAny_mono (op_cmp hb (R2.dat I₂ hd) (R'.dat I₂ he) R.cl) (fun v s' p=>?_) fun J U x=>x
    obtain ⟨rfl,h',tk,rfl,k⟩:=p.boolV
    exact wpAny_truthy_bool ⟨_,_,own₂,Z₂,rfl,rfl,rfl,I₂.grow k,S.trans (.grow k)⟩
  · cases h
theorem rvV_D {fr:Fm} {r:Rv} {d:D} (h:rvV r=some d) :rvD fr r=some d:=by cases r <;> first | exact h | cases h
theorem rv_apart {r:Rv} {d:D} {bv:List Nat} (h:rvV r=some d) :∀i∈plVars r,i∉bv:=by rw [plVars_of h]; intro i hi; cases hi
set_option tactic.hygienic true in
theorem se_idx {ea eb:Expr} {xa xb:Ex} {pos:Pos} (Ha:SE A B c y (eval ea env) xa) (Hb:SE A B c y (eval eb env) xb) (ap:Apart xa (bvE xb)) (hs:∀o i,subscripted eb false o i=operate [o,i] (getItem o i)) :SE A B c y (eval (.Subscript ea eb pos) env) (.idx xa xb):=by
  intro own Z s fr out h I
  rw [ev_idx] at h
  refine Subscript_ (seqE (bv:=bvE xa) (bv':=bvE xa++bvE xb) h .refl inl_ (fun o e=>Ha own Z s fr o e I) fun r fr₁ own₁ Z₁ s₁ v e₁ h I₁ S₁ S R=>?_)
  refine seqE (bv:=bvE xb) h S inr_ (fun o e=>Hb own₁ Z₁ s₁ fr₁ o e I₁) fun r' fr₂ own₂ Z₂ s₂ v' e₂ h I₂ S₂ S R'=>?_
  have R2:=S₂.rv I₁ (apart_of e₁ ap) R
  split at h
  · rename_i d e hd he
    obtain ⟨q,hq,rfl⟩:=okO_eq h
    rw [Option.map_eq_some_iff] at hq; obtain ⟨b,hb,rfl⟩:=hq
    obtain ⟨T,id,hT,hl,hg⟩:=op_getItem (A:=A) (E:=PostX B y (bvE xa++bvE xb) own Z s ((.ok (.fz b) :Except Str Rv),fr₂)) hb (R2.dat I₂ hd) (R'.dat I₂ (rvV_D he))
    exact tail_any hT hl (wpAny_mono hg (fun v s' p=>p.post I₂ S) fun J U x=>x) (hs _ _)
  · cases h
set_option tactic.hygienic true in
theorem se_slc {ea:Expr} {lo hi:Option Expr} {xa xl xh:Ex} {p pos:Pos} (Ha:SE A B c y (eval ea env) xa) (Hl:SE A B c y (evalPart lo env) xl) (Hh:SE A B c y (evalPart hi env) xh) (ap:Apart xa (bvE xl++bvE xh)) :
    SE A B c y (eval (.Subscript ea (.Slice lo hi none p) pos) env) (.slc xa xl xh):=by
  intro own Z s fr out h I
  rw [ev_slc] at h
  refine Subscript_ (seqE (bv:=bvE xa) (bv':=bvE xa++bvE xl++bvE xh) h .refl (fun i h=>inl_ i (inl_ i h)) (fun o e=>Ha own Z s fr o e I) fun r fr₁ own₁ Z₁ s₁ v e₁ h I₁ S₁ S R=>?_)
  refine wpAny_Slice (seqE (bv:=bvE xl) h S (fun i h=>inl_ i (inr_ i h)) (fun o e=>Hl own₁ Z₁ s₁ fr₁ o e I₁) fun r2 fr₂ own₂ Z₂ s₂ v2 e₂ h I₂ S₂ S R'=>?_)
  refine seqE (bv:=bvE xh) h S inr_ (fun o e=>Hh own₂ Z₂ s₂ fr₂ o e I₂) fun r3 fr₃ own₃ Z₃ s₃ v3 e₃ h I₃ S₃ S R3=>?_
  refine wpAny_of_eq (evalPart_none _) ?_
  split at h
  · rename_i d l u hd hl hu
    obtain ⟨q,hq,rfl⟩:=okV_eq h
    have Ra:=S₃.rv I₂ (fun i hi hb=>apart_of e₁ ap i hi (inr_ i hb)) (S₂.rv I₁ (fun i hi hb=>apart_of e₁ ap i hi (inl_ i hb)) R)
    have Rl:=S₃.rv I₂ (rv_apart hl) R'
    obtain ⟨T,id,hT,hlk,hg⟩:=op_slice (A:=A) (E:=PostX B y (bvE xa++bvE xl++bvE xh) own Z s ((.ok q:Except Str Rv),fr₃)) hq (Ra.dat I₃ hd) (Rl.dat I₃ (rvV_D hl)) (R3.dat I₃ (rvV_D hu))
    exact tail_any hT hlk (wpAny_mono hg (fun v s' p=>p.post I₃ S) fun J U x=>x) rfl
  · cases h
end
end Mv
end
section
namespace Mv
open PySem PyProof.Rows
variable [Hp]
noncomputable def F2 (P:Expr→Ex→Prop) :List Expr→List Ex→Prop
  | [],[]=>True
  | e::es,x::xs=>P e x∧Apart x (bvEs xs)∧F2 P es xs
  | _,_=>False
section
variable {A:Around} {B:Heap} {mg mb:Str→Option Value} {tb:Tb} {c:Cfg} {n:Nat} {env:Env} {sc:Sc} {y:Lay}
  {bv bv':List Nat} {own own₁:Addr→Option Nat} {Z Z₁:Addr→Prop} {s s₁:Shared} {fr fr₁:Fm}
theorem PostE.from {out:Except Str Rv×Fm} {v:Value} {s':Shared} (hb:∀i∈bv,i∈bv') (S:Step y bv' own Z s own₁ Z₁ s₁) (p:PostE B y bv own₁ Z₁ s₁ out v s') :PostE B y bv' own Z s out v s':=by
  obtain ⟨r,own',Z',e,I,S',R⟩:=p
  exact ⟨r,own',Z',e,I,S.trans (S'.sub hb),R.since S.old⟩
theorem PostT.from {out:Except Str Rv×Fm} {v:Bool} {s':Shared} (hb:∀i∈bv,i∈bv') (S:Step y bv' own Z s own₁ Z₁ s₁) (p:PostT B y bv own₁ Z₁ s₁ out v s') :PostT B y bv' own Z s out v s':=by
  obtain ⟨r,d,own',Z',e,e',ev,I,S'⟩:=p
  exact ⟨r,d,own',Z',e,e',ev,I,S.trans (S'.sub hb)⟩
set_option tactic.hygienic true in
theorem se_and {pos:Pos} :∀ {es:List Expr} {xs:List Ex},F2 (fun e x=>SE A B c y (eval e env) x) es xs→SE A B c y (eval (.BoolOp .And es pos) env) (.and xs)
  | [],[],_=>by intro own Z s fr out h I; cases h
  | [e],[x],F=>by
    intro own Z s fr out h I
    rw [ev_and,evAnd_one] at h
    refine BoolOp_one (seqE (bv:=bvE x) (bv':=bvE x++[]) h .refl inl_ (fun o e=>F.1 own Z s fr o e I) fun r fr₁ own₁ Z₁ s₁ v e₁ h I₁ S₁ S R=>?_)
    split at h
    · cases h
    · cases h; exact ⟨_,own₁,Z₁,rfl,I₁,S,R⟩
  | e::e'::es,x::x'::xs,F=>by
    intro own Z s fr out h I
    rw [ev_and,evAnd_cons] at h
    refine BoolOp_and (seqE (bv:=bvE x) (bv':=bvE x++bvEs (x'::xs)) h .refl inl_ (fun o e=>F.1 own Z s fr o e I) fun r fr₁ own₁ Z₁ s₁ v e₁ h I₁ S₁ S R=>?_)
    split at h
    · cases h
    · rename_i d hd
      refine op_truth (R.dat I₁ (rvV_D hd)) fun tk=>?_
      split at h
      · rename_i ht
        rw [if_pos ht]
        have S':=toks_step (tk:=tk) S
        exact wpAny_mono (se_and (pos:=pos) F.2.2 own₁ Z₁ {s₁ with toks:=tk} fr₁ out h I₁) (fun v s' p=>p.from inr_ S') fun e s' p=>p.sub inr_ S'
      · rename_i ht
        rw [if_neg ht]
        cases h
        exact ⟨_,own₁,Z₁,rfl,I₁,toks_step S,R⟩
  | [],_::_,F=>F.elim
  | _::_,[],F=>F.elim
  | [_],_::_::_,F=>F.2.2.elim
  | _::_::_,[_],F=>F.2.2.elim
set_option tactic.hygienic true in
theorem se_or {pos:Pos} :∀ {es:List Expr} {xs:List Ex},F2 (fun e x=>SE A B c y (eval e env) x) es xs→SE A B c y (eval (.BoolOp .Or es pos) env) (.or xs)
  | [],[],_=>by intro own Z s fr out h I; cases h
  | [e],[x],F=>by
    intro own Z s fr out h I
    rw [ev_or,evOr_one] at h
    refine BoolOp_one (seqE (bv:=bvE x) (bv':=bvE x++[]) h .refl inl_ (fun o e=>F.1 own Z s fr o e I) fun r fr₁ own₁ Z₁ s₁ v e₁ h I₁ S₁ S R=>?_)
    split at h
    · cases h
    · cases h; exact ⟨_,own₁,Z₁,rfl,I₁,S,R⟩
  | e::e'::es,x::x'::xs,F=>by
    intro own Z s fr out h I
    rw [ev_or,evOr_cons] at h
    refine BoolOp_or (seqE (bv:=bvE x) (bv':=bvE x++bvEs (x'::xs)) h .refl inl_ (fun o e=>F.1 own Z s fr o e I) fun r fr₁ own₁ Z₁ s₁ v e₁ h I₁ S₁ S R=>?_)
    split at h
    · cases h
    · rename_i d hd
      refine op_truth (R.dat I₁ (rvV_D hd)) fun tk=>?_
      split at h
      · rename_i ht
        rw [if_pos ht]
        cases h
        exact ⟨_,own₁,Z₁,rfl,I₁,toks_step S,R⟩
      · rename_i ht
        rw [if_neg ht]
        have S':=toks_step (tk:=tk) S
        exact wpAny_mono (se_or (pos:=pos) F.2.2 own₁ Z₁ {s₁ with toks:=tk} fr₁ out h I₁) (fun v s' p=>p.from inr_ S') fun e s' p=>p.sub inr_ S'
  | [],_::_,F=>F.elim
  | _::_,[],F=>F.elim
  | [_],_::_::_,F=>F.2.2.elim
  | _::_::_,[_],F=>F.2.2.elim
set_option tactic.hygienic true in
theorem st_and {pos:Pos} {whole:Sem Value} :∀ {es:List Expr} {xs:List Ex},F2 (fun e x=>ST A B c y (isTrue e env (eval e env)) x) es xs→ST A B c y (isTrue (.BoolOp .And es pos) env whole) (.and xs)
  | [],[],_=>by intro own Z s fr out h _ I; cases h
  | [e],[x],F=>by
    intro own Z s fr out h _ I
    rw [ev_and,evAnd_one] at h
    refine isTrue_and (seqT (bv:=bvE x) (bv':=bvE x++[]) h .refl inl_ (fun r fr₂ h=>?_) (fun o e hd=>F.1 own Z s fr o e hd I) fun r d fr₁ own₁ Z₁ s₁ h hd I₁ S₁ S=>?_)
    · split at h
      · cases h
      · exact ⟨_,rvV_D (by assumption)⟩
    · split at h
      · cases h
      · cases h
        cases ht:tD d with
        | true=>exact isTrue_and_nil ⟨_,_,own₁,Z₁,rfl,hd,ht.symm,I₁,S⟩
        | false=>exact ⟨_,_,own₁,Z₁,rfl,hd,ht.symm,I₁,S⟩
  | e::e'::es,x::x'::xs,F=>by
    intro own Z s fr out h hd0 I
    rw [ev_and,evAnd_cons] at h
    refine isTrue_and (seqT (bv:=bvE x) (bv':=bvE x++bvEs (x'::xs)) h .refl inl_ (fun r fr₂ h=>?_) (fun o e hd=>F.1 own Z s fr o e hd I) fun r d fr₁ own₁ Z₁ s₁ h hd I₁ S₁ S=>?_)
    · split at h
      · cases h
      · exact ⟨_,rvV_D (by assumption)⟩
    · split at h
      · cases h
      · rename_i d' hd'
        have hd2:=rvV_D (fr:=fr₁) hd'
        rw [hd] at hd2; cases hd2
        split at h
        · rename_i ht
          rw [if_pos ht]
          exact wpAny_mono (st_and (pos:=pos) F.2.2 own₁ Z₁ s₁ fr₁ out h hd0 I₁) (fun v s' p=>p.from inr_ S) fun e s' p=>p.sub inr_ S
        · rename_i ht
          rw [if_neg ht]
          cases h
          exact ⟨_,_,own₁,Z₁,rfl,hd,by simpa using (by simpa using ht:tD d=false).symm,I₁,S⟩
  | [],_::_,F=>F.elim
  | _::_,[],F=>F.elim
  | [_],_::_::_,F=>F.2.2.elim
  | _::_::_,[_],F=>F.2.2.elim
set_option tactic.hygienic true in
theorem st_or {pos:Pos} {whole:Sem Value} :∀ {es:List Expr} {xs:List Ex},F2 (fun e x=>ST A B c y (isTrue e env (eval e env)) x) es xs→ST A B c y (isTrue (.BoolOp .Or es pos) env whole) (.or xs)
  | [],[],_=>by intro own Z s fr out h _ I; cases h
  | [e],[x],F=>by
    intro own Z s fr out h _ I
    rw [ev_or,evOr_one] at h
    refine isTrue_or (seqT (bv:=bvE x) (bv':=bvE x++[]) h .refl inl_ (fun r fr₂ h=>?_) (fun o e hd=>F.1 own Z s fr o e hd I) fun r d fr₁ own₁ Z₁ s₁ h hd I₁ S₁ S=>?_)
    · split at h
      · cases h
      · exact ⟨_,rvV_D (by assumption)⟩
    · split at h
      · cases h
      · cases h
        cases ht:tD d with
        | true=>exact ⟨_,_,own₁,Z₁,rfl,hd,ht.symm,I₁,S⟩
        | false=>exact isTrue_or_nil ⟨_,_,own₁,Z₁,rfl,hd,ht.symm,I₁,S⟩
  | e::e'::es,x::x'::xs,F=>by
    intro own Z s fr out h hd0 I
    rw [ev_or,evOr_cons] at h
    refine isTrue_or (seqT (bv:=bvE x) (bv':=bvE x++bvEs (x'::xs)) h .refl inl_ (fun r fr₂ h=>?_) (fun o e hd=>F.1 own Z s fr o e hd I) fun r d fr₁ own₁ Z₁ s₁ h hd I₁ S₁ S=>?_)
    · split at h
      · cases h
      · exact ⟨_,rvV_D (by assumption)⟩
    · split at h
      · cases h
      · rename_i d' hd'
        have hd2:=rvV_D (fr:=fr₁) hd'
        rw [hd] at hd2; cases hd2
        split at h
        · rename_i ht
          rw [if_pos ht]
          cases h
          exact ⟨_,_,own₁,Z₁,rfl,hd,ht.symm,I₁,S⟩
        · rename_i ht
          rw [if_neg ht]
          exact wpAny_mono (st_or (pos:=pos) F.2.2 own₁ Z₁ s₁ fr₁ out h hd0 I₁) (fun v s' p=>p.from inr_ S) fun e s' p=>p.sub inr_ S
  | [],_::_,F=>F.elim
  | _::_,[],F=>F.elim
  | [_],_::_::_,F=>F.2.2.elim
  | _::_::_,[_],F=>F.2.2.elim
inductive PostEs (B:Heap) (y:Lay) (bv:List Nat) (own:Addr→Option Nat) (Z:Addr→Prop) (s:Shared) (out:Except Str (List Rv)×Fm) (vs:List Value) (s':Shared) :Prop
  | mk (rs:List Rv) (own':Addr→Option Nat) (Z':Addr→Prop) :out.1 = .ok rs→Inv B y own' Z' s'.heap out.2→Step y bv own Z s own' Z' s'→RvsAt y own' Z' s.heap s'.heap rs vs→PostEs B y bv own Z s out vs s'
theorem RvAt.frz {s':Shared} {own':Addr→Option Nat} {Z':Addr→Prop} {r:Rv} {v:Value} (I:Inv B y own' Z' s'.heap fr) (S:Step y bv own Z s own' Z' s') (q:RvAt y own' Z' s.heap s'.heap r v) :
    ∃Z'',Inv B y own' Z'' s'.heap fr∧Step y bv own Z s own' Z'' s'∧RvAt y own' Z'' s.heap s'.heap (frz r) v∧ ∀a,Z' a→Z'' a:=by
  cases r with
  | fz d=>exact ⟨Z',I,S,q,fun J z=>z⟩
  | own d=>
    obtain ⟨a,rfl,n0,nw,nf,nz,w⟩:=q
    obtain ⟨o,ho⟩:=w.live
    exact ⟨_,I.addZ nw nf ho,S.addZ n0,w.rep (fun J z=>.inl z) (.inr rfl),fun J z=>.inl z⟩
  | pl p=>exact ⟨Z',I,S,q,fun J z=>z⟩
theorem plVars_frz (r:Rv) :plVars (frz r)=plVars r:=by cases r <;> rfl
theorem RvsAt.since {h₀ h₁ h:Heap} (k:∀a,h₁.get? a=none→h₀.get? a=none) :∀ {rs:List Rv} {vs:List Value},RvsAt y own Z h₁ h rs vs→RvsAt y own Z h₀ h rs vs
  | [],[],_=>trivial
  | _::_,_::_,q=>⟨q.1.since k,RvsAt.since k q.2⟩
  | [],_::_,q=>q.elim
  | _::_,[],q=>q.elim
set_option tactic.hygienic true in
theorem RvsAt.repAll {h₀ h:Heap} :∀ {rs:List Rv} {vs:List Value} {ds:List D},RvsAt y own Z h₀ h rs vs→rvVs rs=some ds→RepAll h Z vs ds
  | [],[],ds,_,e=>by cases e; exact .nil
  | r::rs,v::vs,ds,q,e=>by
    simp only [rvVs] at e
    split at e
    · rename_i d ds' hd hds
      cases e
      refine .cons ?_ (RvsAt.repAll q.2 hds)
      have:=q.1
      cases r with
      | fz d'=>cases hd; exact this
      | own d'=>cases hd; exact this
      | pl p=>cases hd
    · cases e
  | [],_::_,_,q,_=>q.elim
  | _::_,[],_,q,_=>q.elim
theorem rvD_frz {fr:Fm} {r:Rv} {d:D} (h:rvD fr r=some d) :rvD fr (frz r)=some d:=by cases r <;> exact h
theorem se_s {pos:Pos} :∀ {es:List Expr} {xs:List Ex},F2 (fun e x=>CE tb sc e x∧SE A B c y (eval e env) x) es xs→ ∀(own:Addr→Option Nat) (Z:Addr→Prop) (s:Shared) (fr:Fm) (out:Except Str (List Rv)×Fm),evs c xs fr=some out→Inv B y own Z s.heap fr→
    wpAny (model prog w) A (spliced (backTo pos (starEach es env))) (PostEs B y (bvEs xs) own Z s out) (PostX B y (bvEs xs) own Z s out) s
  | [],[],_=>by
    intro own Z s fr out h I
    cases h
    exact spliced_none ⟨[],own,Z,rfl,I,.refl,trivial⟩
  | e::es,x::xs,F=>by
    intro own Z s fr out h I
    rw [evs_cons] at h
    refine spliced_more (seqE (bv:=bvE x) (bv':=bvE x++bvEs xs) h .refl inl_ (fun o e=>F.1.2 own Z s fr o e I) fun r fr₁ own₁ Z₁ s₁ v e₁ h I₁ S₁ S R=>?_) (F.1.1.star env es)
    obtain ⟨Z₂,I₂,S₂,R₂,_⟩:=R.frz I₁ S
    have ap:∀i∈plVars (frz r),i∉bvEs xs:=by rw [plVars_frz]; exact apart_of e₁ F.2.1
    rcases bnd_some h with ⟨e',f,hm,rfl⟩ | ⟨rs,f,hm,h⟩
    · refine wpAny_mono (se_s (pos:=pos) F.2.2 own₁ Z₂ s₁ fr₁ _ hm I₂) (fun vs s' p=>?_) fun e s' p=>p.up inr_ S₂
      obtain ⟨_,_,_,q,_⟩:=p; cases q
    · refine wpAny_mono (se_s (pos:=pos) F.2.2 own₁ Z₂ s₁ fr₁ _ hm I₂) (fun vs s' p=>?_) fun e s' p=>p.elim
      obtain ⟨rs',own',Z',q,I',S',R'⟩:=p
      cases q
      cases h
      exact ⟨r::rs,own',Z',rfl,I',S₂.trans (S'.sub inr_),S'.rv I₂ ap R₂,R'.since S₂.old⟩
  | [],_::_,F=>F.elim
  | _::_,[],F=>F.elim
theorem seqEs {β:Type} {m:Sem (List Value)} {mo:Out (List Rv)} {k:List Rv→Fm→Out β} {out:Except Str β×Fm} {Q:List Value→Shared→Prop} (hk:bndK mo k=some out) (S:Step y bv' own Z s own₁ Z₁ s₁) (hb:∀i∈bv,i∈bv')
    (H:∀o,mo=some o→wpAny (model prog w) A m (PostEs B y bv own₁ Z₁ s₁ o) (PostX B y bv own₁ Z₁ s₁ o) s₁)
    (K:∀rs fr₂ own₂ Z₂ s₂ vs,mo=some (.ok rs,fr₂)→k rs fr₂=some out→Inv B y own₂ Z₂ s₂.heap fr₂→Step y bv own₁ Z₁ s₁ own₂ Z₂ s₂→Step y bv' own Z s own₂ Z₂ s₂→RvsAt y own₂ Z₂ s₁.heap s₂.heap rs vs→Q vs s₂) :
    wpAny (model prog w) A m Q (PostX B y bv' own Z s out) s₁:=by
  rcases bnd_some hk with ⟨e,f,hm,rfl⟩ | ⟨r,f,hm,hk⟩
  · refine wpAny_mono (H _ hm) (fun v s' p=>?_) fun J U x=>x.up hb S
    obtain ⟨r,_,_,q,_⟩:=p; cases q
  · refine wpAny_mono (H _ hm) (fun v s' p=>?_) fun J U x=>x.elim
    obtain ⟨r',own',Z',q,I,S',R⟩:=p
    cases q
    exact K r f own' Z' s' v hm hk I S' (S.trans (S'.sub hb)) R
theorem evs_len:∀ {xs:List Ex} {fr fr':Fm} {rs:List Rv},evs c xs fr=some (.ok rs,fr')→rs.length=xs.length
  | [],_,_,_,h=>by cases h; rfl
  | x::xs,_,_,_,h=>by
    rw [evs_cons] at h
    rcases bnd_some h with ⟨_,_,_,q⟩ | ⟨a,f,_,q⟩
    · cases q
    · rcases bnd_some q with ⟨_,_,_,q⟩ | ⟨a',f',h',q⟩
      · cases q
      · cases q; rw [List.length_cons,List.length_cons,evs_len h']
theorem se_tup {es:List Expr} {xs:List Ex} {k:Nat} {pos:Pos} (F:F2 (fun e x=>CE tb sc e x∧SE A B c y (eval e env) x) es xs) (hl:xs.length≤1000) :SE A B c y (eval (.Tuple es k pos) env) (.tup xs):=by
  intro own Z s fr out h I
  rw [ev_tup] at h
  refine Tuple_ (seqEs (bv:=bvEs xs) h .refl (fun J h=>h) (fun o e=>se_s F own Z s fr o e I) fun rs fr₁ own₁ Z₁ s₁ vs e₁ h I₁ S₁ S R=>?_)
  obtain ⟨q,hq,rfl⟩:=okO_eq h
  rw [Option.map_eq_some_iff] at hq; obtain ⟨ds,hds,rfl⟩:=hq
  have hz:vs.length≤Sz:=by rw [← R.length,evs_len e₁]; exact Nat.le_trans hl (by decide)
  exact wpAny_newObj_type ((Op.newT (R.repAll hds) hz).post I₁ S) (by show vs.toArray.size≤sizeLine; rw [List.size_toArray,← sz_line]; exact hz)
theorem se_list {es:List Expr} {xs:List Ex} {pos:Pos} (F:F2 (fun e x=>CE tb sc e x∧SE A B c y (eval e env) x) es xs) (hl:xs.length≤1000) :SE A B c y (eval (.List es pos) env) (.list xs):=by
  intro own Z s fr out h I
  rw [ev_list] at h
  refine List_ (seqEs (bv:=bvEs xs) h .refl (fun J h=>h) (fun o e=>se_s F own Z s fr o e I) fun rs fr₁ own₁ Z₁ s₁ vs e₁ h I₁ S₁ S R=>?_)
  obtain ⟨q,hq,rfl⟩:=okO_eq h
  rw [Option.map_eq_some_iff] at hq; obtain ⟨ds,hds,rfl⟩:=hq
  have hz:vs.length≤Sz:=by rw [← R.length,evs_len e₁]; exact Nat.le_trans hl (by decide)
  exact wpAny_newObj_type ((Op.newL (R.repAll hds) hz).post I₁ S) (by show vs.toArray.size≤sizeLine; rw [List.size_toArray,← sz_line]; exact hz)
end
end Mv
end
section
namespace Mv
open PySem PyProof.Rows
variable [Hp]
section
variable {A:Around} {B:Heap} {mg mb:Str→Option Value} {tb:Tb} {c:Cfg} {n:Nat} {env:Env} {sc:Sc} {y:Lay}
  {bv bv':List Nat} {own own₁:Addr→Option Nat} {Z Z₁:Addr→Prop} {s s₁:Shared} {fr fr₁:Fm}
theorem args_fn {es:List Expr} {xs:List Ex} {pos:Pos} {f:Value} {Q:Args→Shared→Prop} {E:Value→Shared→Prop} (F:F2 (fun e x=>CE tb sc e x∧SE A B c y (eval e env) x) es xs)
    (h:wpAny (model prog w) A (spliced (backTo pos (starEach es env))) (fun vs s'=>Q ⟨vs,[]⟩ s') E s) :wpAny (model prog w) A (evalArgs f true (backTo pos (starEach es env)) []) Q E s:=by
  cases es with
  | nil=>
    unfold evalArgs
    show wpAny _ A (spliced [] >>= _) Q E s
    refine wpAny_bind (wpAny_mono h (fun vs s' h'=>wpAny_holding (wpAny_bind (wpAny_pure (wpAny_bind (wpAny_pure (wpAny_pure h')))))) fun J U x=>x)
  | cons e es=>
    cases xs with
    | nil=>exact F.elim
    | cons x xs=>
      rw [F.1.1.star env es] at h ⊢
      exact Calls.evalArgs_plain h
set_option tactic.hygienic true in
theorem se_call {f:Nat} {d:DefRec} {es:List Expr} {xs:List Ex} {p pos:Pos} (R:Rn A B mg mb tb c n) (en:EnvOk A sc env y) (hf:tb.fn[f]? = some d) (hg:sc.isG d.name)
    (F:F2 (fun e x=>CE tb sc e x∧SE A B c y (eval e env) x) es xs) :SE A B c y (eval (.Call (.Name d.name p) es [] pos) env) (.call f xs):=by
  intro own Z s fr out h I
  rw [ev_call] at h
  obtain ⟨a,o,pm,code,doc,hm,ho,hd,hcr⟩:=R.gd.fn f d hf
  refine Call_Name rfl (load_glob R.gd en I hg hm ?_)
  refine Calls.callWith_function (o:=o) (fd:=Calls.docDef d.name d.params d.body d.scope pm code doc) (args_fn F ?_)
  refine seqEs (bv:=bvEs xs) h .refl (fun J h=>h) (fun o e=>se_s F own Z s fr o e I) fun rs fr₁ own₁ Z₁ s₁ vs e₁ h I₁ S₁ S Rs=>?_
  refine ⟨⟨I₁.base a o ho,hd⟩,?_⟩
  unfold callO at h
  split at h
  · cases h
  · rename_i ss hss
    split at h
    · rename_i nd
      have key:∀res outs,c.call c.hd f ss=some (res,outs)→codeAny (model prog w) A (.call (.ref a) ⟨[]++vs,[]⟩) (CallPost B (fun a=>y.F a∨a=y.L) (ownC own₁ rs) Z₁ s₁ ss vs res outs) s₁:=fun res outs hc=>
        R.cs c.hd f ss res outs hc d hf a hm A _ _ _ _ vs R.dep R.un R.hh en.stk (call_gh I₁ rs) (call_slots I₁ Rs hss nd)
      split at h
      · cases h
      · rename_i e' outs hc
        refine wpAny_call (codeAny_mono (key _ _ hc) fun r s' P=>?_)
        cases h
        obtain ⟨own',Z',I',S',⟨rv,v,q,_⟩ | ⟨nm,ea,q,rfl,X⟩⟩:=call_back I₁ Rs hss nd P
        · cases q
        · cases q
          exact ⟨_,ea,own',Z',rfl,rfl,I',S.trans (S'.sub fun i h=>by cases h),X.mono fun b J U h=>⟨S.old b h.1,h.2⟩⟩
      · rename_i r outs hc
        split at h
        · cases h
        · rename_i dv hdv
          cases h
          refine wpAny_call (codeAny_mono (key _ _ hc) fun r s' P=>?_)
          obtain ⟨own',Z',I',S',⟨rv,v,q,rfl,R'⟩ | ⟨nm,ea,q,_⟩⟩:=call_back I₁ Rs hss nd P
          rotate_left
          · cases q
          cases q
          exact ⟨_,own',Z',rfl,I',S.trans (S'.sub fun i h=>by cases h),R'.since S.old⟩
    · cases h
theorem Rn.big (R:Rn A B mg mb tb c n) (I:Inv B y own Z s.heap fr) :3<s.heap.objs.size:=by
  obtain ⟨o,_,_,ho,_⟩:=R.gd.g
  exact Heap.lt_size (I.base _ _ ho)
theorem op_bi1 {b:Bi} {d:D} {r:Rv} {a:Value} {E:Value→Shared→Prop} (hb:b.one=true) (he:biD b [d]=some r) (hh:b.loops=true→A.handled=none) (hs:3<s.heap.objs.size) (zl:∀b,Z b→ ∃o,s.heap.get? b=some o) (ra:Dat s.heap Z a d) :wpAny (model prog w) A (call (biVal b) [a]) (Op Z s r) E s:=by
  cases b with
  | len=>
    rw [b_len] at he
    cases hl:lenD d with
    | none=>rw [hl] at he; exact nos he
    | some n=>rw [hl] at he; obtain rfl:=sos he; exact op_len hl ra
  | isi t=>cases hb
  | int=>
    cases d <;> first | exact nos he | skip
    obtain rfl:=sos he
    exact op_intb ra
  | tuple=>
    cases d <;> first | exact nos he | skip
    all_goals obtain rfl:=sos he
    · exact op_tupleL ra
    · exact op_tupleT ra
  | list=>
    cases d <;> first | exact nos he | skip
    all_goals obtain rfl:=sos he
    · exact op_listS (.inl ra)
    · exact op_listS (.inr ra)
  | dict=>exact op_dict hs (hh rfl) he ra zl
  | _=>cases hb
theorem biCall {b:Bi} {pos:Pos} {args:List (Bool×Sem Value)} {Q:Value→Shared→Prop} {E:Value→Shared→Prop} (hplain:args.any (·.1)=false)
    (h:wpAny (model prog w) A (evalArgs (biVal b) true args []) (fun a s₁=>wpAny (model prog w) A (call (biVal b) ([]++a.pos) a.kw) Q E s₁) E s) :
    wpAny (model prog w) A (callWith pos (biVal b) [] args []) Q E s:=by
  cases b with
  | len=>exact Calls.callWith_builtin (first:=[]) hplain h
  | isi t=>exact Calls.callWith_builtin (first:=[]) hplain h
  | sum=>exact Calls.callWith_builtin (first:=[]) hplain h
  | all=>exact Calls.callWith_builtin (first:=[]) hplain h
  | abs=>exact Calls.callWith_builtin (first:=[]) hplain h
  | int=>exact PyProof.Rows.callWith_type (first:=[]) hplain h
  | tuple=>exact PyProof.Rows.callWith_type (first:=[]) hplain h
  | list=>exact PyProof.Rows.callWith_type (first:=[]) hplain h
  | dict=>exact PyProof.Rows.callWith_type (first:=[]) hplain h
  | _=>exact Calls.callWith_builtin (first:=[]) hplain h
set_option tactic.hygienic true in
theorem se_bi1 {b:Bi} {e:Expr} {x:Ex} {p pos:Pos} (R:Rn A B mg mb tb c n) (en:EnvOk A sc env y) (hb:b.one=true) (hg:sc.isG (biName b)) (hc:CE tb sc e x) (H:SE A B c y (eval e env) x) :
    SE A B c y (eval (.Call (.Name (biName b) p) [e] [] pos) env) (.bi b [x]):=by
  intro own Z s fr out h I
  rw [ev_bi] at h
  split at h
  · cases h
  · rename_i hl
    refine Call_Name (args:=[e]) rfl (load_blt R.gd en I hg (biName_mem b) (biName_ne b) (boot_bi b) ?_)
    have F:F2 (fun e x=>CE tb sc e x∧SE A B c y (eval e env) x) [e] [x]:=⟨⟨hc,H⟩,(fun i J h=>by cases h),trivial⟩
    refine biCall (by rw [hc.star env []]; rfl) (args_fn F ?_)
    refine seqEs (bv:=bvEs [x]) h .refl (fun J h=>h) (fun o e=>se_s F own Z s fr o e I) fun rs fr₁ own₁ Z₁ s₁ vs e₁ h I₁ S₁ S Rs=>?_
    obtain ⟨r,rfl⟩:=List.length_eq_one_iff.mp (evs_len e₁:rs.length=1)
    obtain ⟨v,rfl,Rq⟩:=Rs.one
    cases hr:rvD fr₁ r with
    | none=>simp only [rvDs,hr] at h; cases h
    | some d=>
      simp only [rvDs,hr] at h
      obtain ⟨q,hq,rfl⟩:=okV_eq h
      refine wpAny_mono (op_bi1 hb hq (fun h'=>R.hh ?_) (R.big I₁) I₁.zlv (Rq.dat I₁ (rvD_frz hr))) (fun v s' p=>p.post I₁ S) fun J U x=>x
      cases hh:c.hd with
      | false=>rfl
      | true=>exact absurd (by rw [hh,h']; rfl) hl
theorem tyName_mem (t:Ty) :(tyName t:Str)∈biNames:=by cases t <;> (dsimp only [tyName]; decide)
theorem tyName_ne (t:Ty) :(tyName t:Str)≠("__name__" :Str):=by cases t <;> (dsimp only [tyName]; decide)
set_option tactic.hygienic true in
theorem se_isi {t:Ty} {e:Expr} {x:Ex} {p p' pos:Pos} (R:Rn A B mg mb tb c n) (en:EnvOk A sc env y) (hg:sc.isG "isinstance") (hg':sc.isG (tyName t)) (hc:CE tb sc e x) (H:SE A B c y (eval e env) x) :
    SE A B c y (eval (.Call (.Name "isinstance" p) [e,.Name (tyName t) p'] [] pos) env) (.bi (.isi t) [x]):=by
  intro own Z s fr out h I
  rw [ev_bi] at h
  rw [if_neg (by simp [Bi.loops])] at h
  refine Call_Name (args:=[e,.Name (tyName t) p']) rfl (load_blt R.gd en I hg (biName_mem (.isi t)) (biName_ne (.isi t)) (boot_bi (.isi t)) ?_)
  refine biCall (b:=.isi t) (by rw [hc.star env]; rfl) ?_
  rw [hc.star env]
  refine Calls.evalArgs_plain (Calls.spliced_cons ?_)
  rw [evs_cons] at h
  refine seqE (bv:=bvE x) (bv':=bvE x++[]) (k:=fun r fr=>match rvD fr r with | some d=>okV fr (biD (.isi t) [d]) | none=>none) (out:=out) ?_ .refl inl_ (fun o e=>H own Z s fr o e I) fun r fr₁ own₁ Z₁ s₁ v e₁ h I₁ S₁ S R1=>?_
  · rcases he:ev c x fr with _ | ⟨_ | r,f⟩
    · rw [he] at h; exact h
    · rw [he] at h; exact h
    · rw [he] at h
      refine Eq.trans ?_ h
      show (match rvD f r with | some d=>okV f (biD (.isi t) [d]) | none=>none)=_
      simp only [evs_nil,bnd_ok,rvDs]
      cases rvD f r with
      | none=>rfl
      | some d=>rfl
  · split at h
    · rename_i d hd
      obtain ⟨q,hq,rfl⟩:=okV_eq h
      obtain rfl:=sos hq
      refine Calls.spliced_cons (load_blt R.gd en I₁ hg' (tyName_mem t) (tyName_ne t) (boot_ty t) (Calls.spliced_nil ?_))
      exact wpAny_mono (op_isi t (R1.dat I₁ hd)) (fun v s' p=>p.post I₁ S) fun J U x=>x
    · cases h
theorem load_cls {x:Str} {pos:Pos} {V:Value} {E:Value→Shared→Prop} {Q:Value→Shared→Prop} (gd:Gd B mg mb c.glob tb) (en:EnvOk A sc env y) (I:Inv B y own Z s.heap fr) (hx:sc.isG x) (hv:mg x=some V∨(mg x=none∧mb x=some V)) (h:Q V s) :
    wpAny (model prog w) A (eval (.Name x pos) env) Q E s:=by
  rcases hv with hv | ⟨h1,h2⟩
  · exact load_glob gd en I hx hv h
  · exact Calls.Name_function_global en.kind (en.gl x hx.1) (Calls.loadGlobal_builtin (by rw [en.glob]; exact gd.g.keeps I.base) h1 (by rw [en.blt]; exact gd.b.keeps I.base) h2 h) hx.2
theorem exc_mg {k:Str} {v:Value} (gd:Gd B mg mb c.glob tb) (I:Inv B y own Z s.heap fr) (sv:SlotV s.heap Z (fun a=>own a=none) (.exc k) v) :∃a o C,v = .ref a∧s.heap.get? a=some o∧(o.cls = .ref C∧o.dict=none∧ ∃vs,o.data = .fields vs)∧mg k=some (.ref C):=by
  obtain ⟨a,o,C,m,rfl,za,e,hc,zm,hn,hm⟩:=sv
  refine ⟨a,o,C,rfl,e,hc,?_⟩
  obtain ⟨o',es',ep',ho',hd',hk',hf'⟩:=gd.g.keeps I.base
  obtain ⟨o,es,ep,ho,hd,hk,hf⟩:=hn
  rw [ho] at ho'; cases ho'
  rw [hd] at hd'; cases hd'
  rw [← hf,hf'] at hm; exact hm
theorem exc_asked {yes no:List Str} {k:Str} {v V:Value} {b:Bool} (gd:Gd B mg mb c.glob tb) (I:Inv B y own Z s.heap fr) (ha:∀k C,mg k=some (.ref C)→(k∈yes→Asked B C V true)∧(k∈no→Asked B C V false)) (hb:(b=true∧k∈yes)∨(b=false∧k∈no))
    (sv:SlotV s.heap Z (fun a=>own a=none) (.exc k) v) :∃a o C,v = .ref a∧s.heap.get? a=some o∧(o.cls = .ref C∧o.dict=none∧ ∃vs,o.data = .fields vs)∧Asked B C V b:=by
  obtain ⟨a,o,C,rfl,e,hc,hk⟩:=exc_mg gd I sv
  refine ⟨a,o,C,rfl,e,hc,?_⟩
  rcases hb with ⟨rfl,hb⟩ | ⟨rfl,hb⟩
  · exact (ha k C hk).1 hb
  · exact (ha k C hk).2 hb
theorem isx_out {k:Str} {yes no:List Str} {out:Except Str Rv×Fm} (h:(if yes.contains k=true then some (.ok (.fz (.bool true)),fr) else if no.contains k=true then some (.ok (.fz (.bool false)),fr) else none)=some out) :∃b,((b=true∧k∈yes)∨(b=false∧k∈no))∧out=(.ok (.fz (.bool b)),fr):=by
  by_cases q:yes.contains k=true
  · rw [if_pos q] at h; exact ⟨true,.inl ⟨rfl,List.contains_iff_mem.mp q⟩,(sos h).symm⟩
  · rw [if_neg q] at h
    by_cases q:no.contains k=true
    · rw [if_pos q] at h; exact ⟨false,.inr ⟨rfl,List.contains_iff_mem.mp q⟩,(sos h).symm⟩
    · rw [if_neg q] at h; exact nos h
set_option tactic.hygienic true in
theorem se_isx {x cn:Str} {i:Nat} {yes no:List Str} {p p1 p2 pos:Pos} (R:Rn A B mg mb tb c n) (en:EnvOk A sc env y) (hg:sc.isG "isinstance") (hx:sc.isV x i) (hc:sc.isG cn) (hs:tb.sub.lookup cn = some (yes,no)) :
    SE A B c y (eval (.Call (.Name "isinstance" p) [.Name x p1,.Name cn p2] [] pos) env) (.isx i yes no):=by
  intro own Z s fr out h I
  rw [ev_isx] at h
  obtain ⟨V,hV,ha⟩:=R.gd.ask cn yes no hs
  split at h
  · rename_i k hk
    obtain ⟨l,v,hl,hr,sv⟩:=I.at' i _ hk (by intro q; cases q)
    obtain ⟨b,hb,rfl⟩:=isx_out h
    obtain ⟨a,o,C,rfl,e,ho,ask⟩:=exc_asked R.gd I ha hb sv
    refine Call_Name (args:=[.Name x p1,.Name cn p2]) rfl (load_blt R.gd en I hg (biName_mem (.isi .bool)) (biName_ne (.isi .bool)) (boot_bi (.isi .bool)) ?_)
    refine biCall (b:=.isi .bool) rfl ?_
    refine Calls.evalArgs_plain (Calls.spliced_cons (load_var en hx hl hr ?_))
    refine Calls.spliced_cons (load_cls R.gd en I hc hV (Calls.spliced_nil ?_))
    exact (ask prog w A _ s a o I.base e ho).2 _ fun tk=>.val (s':= {s with toks:=tk}) I (toks_step .refl) (.bool b)
  · exact nos h
end
end Mv
end
section
namespace Mv
open PySem PyProof.Rows
variable [Hp]
section
variable {A:Around} {B:Heap} {mg mb:Str→Option Value} {tb:Tb} {c:Cfg} {n:Nat} {env:Env} {sc:Sc} {y:Lay}
  {bv bv':List Nat} {own own₁:Addr→Option Nat} {Z Z₁:Addr→Prop} {s s₁:Shared} {fr fr₁:Fm}
theorem set_rvD {i:Nat} {d:D} (h:fr[i]? = some (.own d)) (r:Rv) :rvD (fr.set i (.fz d)) r=rvD fr r:=by
  have hi:=(List.getElem?_eq_some_iff.mp h).1
  cases r with
  | fz d=>rfl
  | own d=>rfl
  | pl p=>
    cases p with
    | var j=>
      simp only [rvD,plGet]
      by_cases q:i=j
      · subst q; rw [List.getElem?_set_self hi,h]
      · rw [List.getElem?_set_ne q]
set_option tactic.hygienic true in
theorem simp_rvD {k:Expr} {z:Ex} {r':Rv} (ce:CE tb sc k z) (hs:baseB k=true) (h:ev c z fr=some (.ok r',fr₁)) (r:Rv) :rvD fr₁ r=rvD fr r:=by
  cases ce.sx hs with
  | lit _=>cases h; rfl
  | var _=>
    rw [ev_var] at h
    split at h
    · cases h; rfl
    · rename_i hd; cases h; exact set_rvD hd r
    · cases h
  | pl _=>
    rw [ev_pl] at h
    split at h
    · cases h; rfl
    · cases h
  | gl _=>
    rw [ev_gl] at h
    split at h
    · cases h; rfl
    · cases h
theorem simp_err {k:Expr} {z:Ex} {nm:Str} (ce:CE tb sc k z) (hs:baseB k=true) (h:ev c z fr=some (.error nm,fr₁)) :False:=by
  cases ce.sx hs with
  | lit _=>cases h
  | var _=>
    rw [ev_var] at h
    split at h <;> cases h
  | pl _=>
    rw [ev_pl] at h
    split at h <;> cases h
  | gl _=>
    rw [ev_gl] at h
    split at h <;> cases h
theorem base_plain {a:Expr} {nm:Str} (h:baseB a=true) :attributeBase a nm env (eval a env)=eval a env:=by
  cases a <;> first | rfl | cases h
noncomputable def MOp (A:Around) (nm:Str) (b:Bi) :Prop:= ∀(d e:D) (r:Rv),biD b [d,e] = some r→ ∃T id,PlainAttrs T∧PySem.Slot T nm id∧typeOf (.builtin id) = pure (.type "method_descriptor")∧(∀(Z:Addr→Prop) (s:Shared) (v:Value),Dat s.heap Z v d→s.TypeIs v T∧ ∀a,v = .ref a→ ∃ob,s.heap.get? a = some ob∧ob.dict = none)∧
      ∀(Z:Addr→Prop) (s:Shared) (v v':Value) (E:Value→Shared→Prop),Dat s.heap Z v d→Dat s.heap Z v' e→wpAny (model prog w) A (call (.builtin id) [v,v']) (Op Z s r) E s
theorem bi2_out {b:Bi} {x z:Ex} {out:Except Str Rv×Fm} (h:ev c (.bi b [x,z]) fr=some out) (hb:b.loops=false) :
    bndK (ev c x fr) (fun r fr=>bndK (ev c z fr) fun r' fr=>match rvD fr r,rvD fr r' with | some d,some e=>okV fr (biD b [d,e]) | _,_=>none)=some out:=by
  rw [ev_bi,hb,Bool.and_false,if_neg Bool.false_ne_true,evs_cons] at h
  rcases he:ev c x fr with _ | ⟨_ | r,f⟩
  · rw [he] at h; exact h
  · rw [he] at h; exact h
  · rw [he] at h
    show bndK (ev c z f) _=some out
    have h2:bnd (k:=⟨fun rs fr=>match rvDs fr rs with | some ds=>okV fr (biD b ds) | none=>none⟩) (bnd (k:=⟨fun rs fr=>some (.ok (r::rs),fr)⟩) (evs c [z] f))=some out:=h
    rw [evs_cons] at h2
    rcases hz:ev c z f with _ | ⟨_ | r',f'⟩
    · rw [hz] at h2; exact h2
    · rw [hz] at h2; exact h2
    · rw [hz] at h2
      have h3:(match rvDs f' [r,r'] with | some ds=>okV f' (biD b ds) | none=>none)=some out:=h2
      simp only [rvDs] at h3
      show (match rvD f' r,rvD f' r' with | some d,some e=>okV f' (biD b [d,e]) | _,_=>none)=some out
      cases h4:rvD f' r with
      | none=>rw [h4] at h3; exact h3
      | some d=>
        rw [h4] at h3
        cases h5:rvD f' r' with
        | none=>rw [h5] at h3; exact h3
        | some e=>rw [h5] at h3; exact h3
set_option tactic.hygienic true in
theorem se_m1 {a k:Expr} {x z:Ex} {nm:Str} {apos pos:Pos} {b:Bi} (ha:baseB a=true) (hk:baseB k=true) (hl:(apos.endLine==pos.line)=true) (hb:b.loops=false)
    (F:F2 (fun e x=>CE tb sc e x∧SE A B c y (eval e env) x) [a,k] [x,z]) (op:MOp A nm b) :
    SE A B c y (eval (.Call (.Attribute a nm apos) [k] [] pos) env) (.bi b [x,z]):=by
  intro own Z s fr out h I
  have h:=bi2_out h hb
  refine wpAny_Call_method1_late (base_plain ha) hl (by rw [F.2.2.1.1.star env []]; rfl) ?_
  refine seqE (bv:=bvE x) (bv':=bvE x++(bvE z++[])) h .refl inl_ (fun o e=>F.1.2 own Z s fr o e I) fun r fr₁ own₁ Z₁ s₁ v e₁ h I₁ S₁ S R1=>?_
  rcases bnd_some h with ⟨e,f,hm,_⟩ | ⟨r',fr₂,hm,h2⟩
  · exact (simp_err F.2.2.1.1 hk hm).elim
  · split at h2
    · rename_i d e hd he
      obtain ⟨q,hq,rfl⟩:=okV_eq h2
      obtain ⟨T,id,pa,sl,ty,hT,hop⟩:=op d e q hq
      rw [simp_rvD F.2.2.1.1 hk hm] at hd
      obtain ⟨t1,t2⟩:=hT Z₁ s₁ v (R1.dat I₁ hd)
      refine ⟨T,id,pa,sl,ty,t1,t2,Calls.callWith_builtin (first:=[v]) rfl (Calls.evalArgs_plain (Calls.spliced_cons ?_))⟩
      refine seqE (bv:=bvE z) h S (fun i h=>inr_ i (inl_ i h)) (fun o e=>F.2.2.1.2 own₁ Z₁ s₁ fr₁ o e I₁) fun r'' fr₃ own₂ Z₂ s₂ v' e₂ h3 I₂ S₂ S' R'=>?_
      rw [hm] at e₂; cases e₂
      have R2:=S₂.rv I₁ (apart_of e₁ (fun i hi hj=>F.2.1 i hi (inl_ i hj))) R1
      refine Calls.spliced_nil ?_
      exact wpAny_mono (hop Z₂ s₂ v v' _ (R2.dat I₂ (by rw [simp_rvD F.2.2.1.1 hk hm]; exact hd)) (R'.dat I₂ he)) (fun v s' p=>p.post I₂ S') fun J U x=>x
    · exact nos h2
theorem mop_count:MOp A "count" .count:=by
  intro d e r h
  cases d <;> first | exact nos h | skip
  cases e <;> first | exact nos h | skip
  obtain ⟨bs,hb,rfl⟩:=Option.map_eq_some_iff.mp h
  refine ⟨"list","list.count",PySem.F.plainAttrs_list,PySem.F.slot_list_count,PySem.F.type_list_count,fun Z s v r=>?_,fun Z s v v' E r r'=>op_count hb r r'⟩
  obtain ⟨l,vs,n,rfl,hl,hn,R⟩:=r.list
  exact ⟨⟨_,hl,rfl⟩,fun a e=>by cases e; exact ⟨_,hl,rfl⟩⟩
inductive LitS (tb:Tb) (x:Str) (z:Ex) :Prop
  | mk:z = .lit (.str x)→PyData.strOk x=true→LitS tb x z
end
end Mv
end
section
namespace Mv
open PySem PyProof.Rows
section
variable {prog:Program} {w:World} {A:Around} {E:Value→Shared→Prop} {s:Shared}
theorem nextOf_tup {it t:Addr} {i:Nat} {items:Array Value} {x:Value} {Q:Value→Shared→Prop} (hit:s.heap.IsTupleIter it t i) (ht:s.heap.IsTuple t items) (hx:items[i]? = some x)
    (hQ:∀h',h'.IsTupleIter it t (i+1)→Heap.SameBut it s.heap h'→Q x {s with heap:=h'}) :wpAny (model prog w) A (Builtin.SmallTypes.nextOf (.ref it)) Q E s:=by
  obtain ⟨o,ho,hc,hd⟩:=id hit
  obtain ⟨ol,hol,_,nl,hdl⟩:=ht
  unfold Builtin.SmallTypes.nextOf
  refine wpAny_bind (wpAny_callSpecial?_slot (name:=Str.ofString "__next__") hit.typeIs F.slot_tuple_iterator_next (wpAny_call_entry F.slot_tuple_iterator_next hit.typeIs F.entry_tuple_iterator_next ?_ (F.args_tuple_iterator_next_1 _)))
  show wpAny _ _ (field (.ref it) 0 >>= _) _ _ s
  refine wpAny_bind (wpAny_field ho hd (x:=.ref t) rfl ?_)
  show wpAny _ _ (if (Value.ref t==Value.none)=true then _ else _) _ _ s
  rw [if_neg (show ¬((Value.ref t==Value.none)=true) from Bool.false_ne_true)]
  show wpAny _ _ (field (.ref it) 1 >>= _) _ _ s
  refine wpAny_bind (wpAny_field ho hd (x:=.int i 0) rfl ?_)
  show wpAny _ _ (seqItems? (.ref t) >>= _) _ _ s
  refine wpAny_bind (wpAny_seqItems hol hdl ?_)
  simp only [Int.toNat_natCast,hx]
  refine wpAny_bind (wpAny_setField ho hd (by simp) (wpAny_pure ⟨x,rfl,wpAny_pure (hQ _ ?_ (Heap.SameBut.update ..))⟩))
  exact ⟨_,Heap.get?_update_self _ ho (Obj.isFreed_of_fields (Obj.data_mapFields hd _)),(Obj.cls_mapFields ..).trans hc,by rw [Obj.data_mapFields hd]; simp [rawInt]⟩
theorem nextOf_tupE {it t:Addr} {i:Nat} {items:Array Value} {Q:Value→Shared→Prop} (hh:A.handled=none) (hit:s.heap.IsTupleIter it t i) (ht:s.heap.IsTuple t items) (hx:items[i]? = none)
    (hE:∀h' e,Heap.ExtBut it s.heap h'→(∃o,h'.get? e = some o∧o.cls = .type "StopIteration")→E (.ref e) {s with heap:=h'}) :wpAny (model prog w) A (Builtin.SmallTypes.nextOf (.ref it)) Q E s:=by
  obtain ⟨o,ho,hc,hd⟩:=id hit
  obtain ⟨ol,hol,_,nl,hdl⟩:=ht
  unfold Builtin.SmallTypes.nextOf
  refine wpAny_bind (wpAny_callSpecial?_slot (name:=Str.ofString "__next__") hit.typeIs F.slot_tuple_iterator_next (wpAny_call_entry F.slot_tuple_iterator_next hit.typeIs F.entry_tuple_iterator_next ?_ (F.args_tuple_iterator_next_1 _)))
  show wpAny _ _ (field (.ref it) 0 >>= _) _ _ s
  refine wpAny_bind (wpAny_field ho hd (x:=.ref t) rfl ?_)
  show wpAny _ _ (if (Value.ref t==Value.none)=true then _ else _) _ _ s
  rw [if_neg (show ¬((Value.ref t==Value.none)=true) from Bool.false_ne_true)]
  show wpAny _ _ (field (.ref it) 1 >>= _) _ _ s
  refine wpAny_bind (wpAny_field ho hd (x:=.int i 0) rfl ?_)
  show wpAny _ _ (seqItems? (.ref t) >>= _) _ _ s
  refine wpAny_bind (wpAny_seqItems hol hdl ?_)
  simp only [Int.toNat_natCast,hx]
  refine wpAny_bind (wpAny_rule (wpAny_bind (wpAny_setField ho hd (by simp) ?_)))
  show wpAny _ _ (newExc (.type "StopIteration") [] >>= _) _ _ _
  refine wpAny_bind ?_
  simp only [newExc,newTuple]
  refine wpAny_bind (wpAny_newObj_type ?_ (by size_fits))
  refine wpAny_bind (m:=firstArgMember _ _) (wpAny_of_eq (a:=Value.none) (by first | rfl | (simp only [firstArgMember]; rfl)) ?_)
  refine wpAny_newObj_type ?_ (by size_fits)
  simp only [raiseNew]
  refine wpAny_bind (wpAny_handled ?_)
  first | rw [show A.in1.handled=none from hh] | rw [hh]
  refine wpAny_bind (wpAny_pure (wpAny_throw ?_))
  exact hE _ _ (((Heap.SameBut.update ..).extBut.push _).push _) ⟨_,Heap.get?_push_size _ rfl,rfl⟩
structure ZipSt (z TI TO i1 i2 l1 l2:Addr) (xs ys:Array Value) (k:Nat) (f0:Value) (h:Heap) :Prop where
  z:IsZip h z TI TO f0
  ti:IsPair h TI (.ref i1) (.ref i2)
  to:∃a b,IsPair h TO a b
  i1:h.IsTupleIter i1 l1 k
  i2:h.IsTupleIter i2 l2 k
  l1:h.IsTuple l1 xs
  l2:h.IsTuple l2 ys
theorem tupIt_at {h h':Heap} {a t:Addr} {i:Nat} (x:h.IsTupleIter a t i) (k:∀o,h.get? a=some o→h'.get? a=some o) :h'.IsTupleIter a t i:=let ⟨o,e,r⟩:=x; ⟨o,k o e,r⟩
theorem tup_at {h h':Heap} {a:Addr} {items:Array Value} (x:h.IsTuple a items) (k:∀o,h.get? a=some o→h'.get? a=some o) :h'.IsTuple a items:=let ⟨o,e,r⟩:=x; ⟨o,k o e,r⟩
variable {z TI TO i1 i2 l1 l2:Addr} {xs ys:Array Value} {k:Nat}
theorem ZipSt.at {f0:Value} {h h':Heap} (S:ZipSt z TI TO i1 i2 l1 l2 xs ys k f0 h) (q:∀b∈ [z,TI,TO,i1,i2,l1,l2], ∀o,h.get? b=some o→h'.get? b=some o) :ZipSt z TI TO i1 i2 l1 l2 xs ys k f0 h' where
  z:=q z (.head _) _ S.z
  ti:=q TI (.tail _ (.head _)) _ S.ti
  to:=let ⟨a,b,e⟩:=S.to; ⟨a,b,q TO (.tail _ (.tail _ (.head _))) _ e⟩
  i1:=tupIt_at S.i1 (q i1 (.tail _ (.tail _ (.tail _ (.head _)))))
  i2:=tupIt_at S.i2 (q i2 (.tail _ (.tail _ (.tail _ (.tail _ (.head _))))))
  l1:=tup_at S.l1 (q l1 (.tail _ (.tail _ (.tail _ (.tail _ (.tail _ (.head _)))))))
  l2:=tup_at S.l2 (q l2 (.tail _ (.tail _ (.tail _ (.tail _ (.tail _ (.tail _ (.head _))))))))
theorem zip_item {x y:Value} {Q:Value→Shared→Prop} (D:ZipApart z TI TO i1 i2 l1 l2) (S:ZipSt z TI TO i1 i2 l1 l2 xs ys k .none s.heap) (hx:xs[k]? = some x) (hy:ys[k]? = some y)
    (hQ:∀h',ZipSt z TI TO i1 i2 l1 l2 xs ys (k+1) (rawInt s.heap.objs.size) h'→IsPair h' s.heap.objs.size x y→
      (∀c o,c≠z→c≠TO→c≠i1→c≠i2→s.heap.get? c=some o→h'.get? c=some o)→Q (.ref s.heap.objs.size) {s with heap:=h'}) :
    wpAny (model prog w) A (Builtin.«zip.__next__» ⟨[.ref z],[]⟩) (fun fin s'=> ∃v,fin = .done (.ret v)∧Q v s') E s:=by
  obtain ⟨hz,hTI,⟨a,b,hTO⟩,h1,h2,hl1,hl2⟩:=S
  show wpAny _ _ (field (.ref z) 2 >>= _) _ _ _
  refine wpAny_bind (wpAny_field hz rfl (x:=.bool false) rfl ?_)
  show wpAny _ _ (field (.ref z) 3 >>= _) _ _ _
  refine wpAny_bind (wpAny_field hz rfl (x:=.ref TI) rfl ?_)
  refine wpAny_bind (wpAny_seqItems hTI rfl ?_)
  show wpAny _ _ (Builtin.SmallTypes.ownedTupleIsFree (.ref z) >>= _) _ _ _
  refine wpAny_bind ?_
  unfold Builtin.SmallTypes.ownedTupleIsFree
  refine wpAny_bind (wpAny_field hz rfl (x:=.none) rfl (wpAny_pure ?_))
  simp only [if_true]
  refine wpAny_bind (wpAny_rule ?_)
  refine wpAny_bind (wpAny_field hz rfl (x:=.ref TO) rfl ?_)
  refine wpAny_bind (wpAny_setField_rec hz (by simp) fun h₁ hz₁ hs₁=>?_)
  replace hz₁:IsZip h₁ z TI TO .ellipsis:=hz₁
  refine wpAny_bind ?_
  simp only [List.zipIdx_cons,List.zipIdx_nil,List.forIn_cons,List.forIn_nil]
  refine wpAny_bind (wpAny_bind (wpAny_onRaise ?_))
  show wpAny _ _ (Builtin.SmallTypes.nextOf (.ref i1) >>= _) _ _ _
  refine wpAny_bind (nextOf_tup (h1.extBut hs₁.extBut D.i1z) (hl1.extBut hs₁.extBut D.l1z) hx fun h₂ h1₂ hs₂=>wpAny_pure ?_)
  have hTO₂:IsPair h₂ TO a b:=hs₂.extBut _ _ D.TOi1 (hs₁.extBut _ _ D.TOz hTO)
  refine wpAny_bind (wpAny_seqItems hTO₂ rfl ?_)
  refine wpAny_bind (wpAny_updateSeq_pair hTO₂ fun h₃ hTO₃ hs₃=>?_)
  replace hTO₃:IsPair h₃ TO x b:=hTO₃
  refine wpAny_bind (wpAny_letGo (wpAny_pure ?_))
  refine wpAny_bind (wpAny_bind (wpAny_onRaise ?_))
  show wpAny _ _ (Builtin.SmallTypes.nextOf (.ref i2) >>= _) _ _ _
  have k3:∀c o,c≠z→c≠i1→c≠TO→s.heap.get? c=some o→h₃.get? c=some o:=fun c o c1 c2 c3 e=>hs₃.extBut _ _ c3 (hs₂.extBut _ _ c2 (hs₁.extBut _ _ c1 e))
  refine wpAny_bind (nextOf_tup (tupIt_at h2 fun o e=>k3 _ o D.i2z D.i12.symm D.TOi2.symm e) (tup_at hl2 fun o e=>k3 _ o D.l2z D.l2i1 D.l2TO e) hy fun h₄ h2₄ hs₄=>wpAny_pure ?_)
  have hTO₄:IsPair h₄ TO x b:=hs₄.extBut _ _ D.TOi2 hTO₃
  refine wpAny_bind (wpAny_seqItems hTO₄ rfl ?_)
  refine wpAny_bind (wpAny_updateSeq_pair hTO₄ fun h₅ hTO₅ hs₅=>?_)
  replace hTO₅:IsPair h₅ TO x y:=hTO₅
  refine wpAny_bind (wpAny_letGo (wpAny_pure (wpAny_pure ?_)))
  refine wpAny_bind (wpAny_seqItems hTO₅ rfl ?_)
  refine wpAny_bind (wpAny_newTuple ?_)
  have hsz:h₅.objs.size=s.heap.objs.size:=by rw [hs₅.1,hs₄.1,hs₃.1,hs₂.1,hs₁.1]
  have hz₅:IsZip h₅ z TI TO .ellipsis:=hs₅.extBut _ _ D.TOz.symm (hs₄.extBut _ _ D.i2z.symm (hs₃.extBut _ _ D.TOz.symm (hs₂.extBut _ _ D.i1z.symm hz₁)))
  have k5:∀c o,c≠z→c≠TO→c≠i1→c≠i2→s.heap.get? c=some o→h₅.get? c=some o:=fun c o c1 c2 c3 c4 e=>hs₅.extBut _ _ c2 (hs₄.extBut _ _ c4 (k3 c o c1 c3 c2 e))
  have h1₅:h₅.IsTupleIter i1 l1 (k+1):=((h1₂.extBut hs₃.extBut D.TOi1.symm).extBut hs₄.extBut D.i12).extBut hs₅.extBut D.TOi1.symm
  have h2₅:h₅.IsTupleIter i2 l2 (k+1):=h2₄.extBut hs₅.extBut D.TOi2.symm
  show wpAny _ _ (Builtin.SmallTypes.ownedTupleHandOut (.ref z) (.ref h₅.objs.size) >>= _) _ _ _
  refine wpAny_bind ?_
  unfold Builtin.SmallTypes.ownedTupleHandOut
  have hz₆:IsZip (h₅.push {cls:=.type "tuple",data:=.seq #[x,y]}) z TI TO .ellipsis:=Heap.get?_push_of_some _ hz₅
  refine wpAny_bind (wpAny_setField_rec hz₆ (by simp) fun h₇ hz₇ hs₇=>?_)
  replace hz₇:IsZip h₇ z TI TO (rawInt h₅.objs.size):=hz₇
  refine wpAny_setField_rec hz₇ (by simp) fun h₈ hz₈ hs₈=>?_
  replace hz₈:IsZip h₈ z TI TO (rawInt h₅.objs.size):=hz₈
  have up:∀c o,c≠z→h₅.get? c=some o→h₈.get? c=some o:=fun c o c1 e=>hs₈.extBut _ _ c1 (hs₇.extBut _ _ c1 (Heap.get?_push_of_some _ e))
  have zne:h₅.objs.size≠z:=Nat.ne_of_gt (Heap.lt_size hz₅)
  have hT₈:IsPair h₈ h₅.objs.size x y:=hs₈.extBut _ _ zne (hs₇.extBut _ _ zne (Heap.get?_push_size _ rfl))
  rw [hsz] at hz₈ hT₈
  refine wpAny_pure ⟨_,rfl,?_⟩
  show Q (.ref h₅.objs.size) _
  rw [hsz]
  have kk:∀c o,c≠z→c≠TO→c≠i1→c≠i2→s.heap.get? c=some o→h₈.get? c=some o:=fun c o c1 c2 c3 c4 e=>up c o c1 (k5 c o c1 c2 c3 c4 e)
  exact hQ h₈ ⟨hz₈,kk _ _ D.TIz D.TITO D.TIi1 D.TIi2 hTI,⟨_,_,up _ _ D.TOz hTO₅⟩,tupIt_at h1₅ fun o e=>up _ o D.i1z e,tupIt_at h2₅ fun o e=>up _ o D.i2z e,tup_at hl1 fun o e=>kk _ o D.l1z D.l1TO D.l1i1 D.l1i2 e,tup_at hl2 fun o e=>kk _ o D.l2z D.l2TO D.l2i1 D.l2i2 e⟩ hT₈ kk
theorem zip_end {Q:Fin→Shared→Prop} (hh:A.handled=none) (D:ZipApart z TI TO i1 i2 l1 l2) (S:ZipSt z TI TO i1 i2 l1 l2 xs ys k .none s.heap) (hend:xs[k]? = none∨ys[k]? = none)
    (hE:∀h' e,(∀c o,c≠z→c≠TO→c≠i1→c≠i2→s.heap.get? c = some o→h'.get? c = some o)→(∃o,h'.get? e = some o∧o.cls = .type "StopIteration")→E (.ref e) {s with heap:=h'}) :
    wpAny (model prog w) A (Builtin.«zip.__next__» ⟨[.ref z],[]⟩) Q E s:=by
  obtain ⟨hz,hTI,⟨a,b,hTO⟩,h1,h2,hl1,hl2⟩:=S
  show wpAny _ _ (field (.ref z) 2 >>= _) _ _ _
  refine wpAny_bind (wpAny_field hz rfl (x:=.bool false) rfl ?_)
  show wpAny _ _ (field (.ref z) 3 >>= _) _ _ _
  refine wpAny_bind (wpAny_field hz rfl (x:=.ref TI) rfl ?_)
  refine wpAny_bind (wpAny_seqItems hTI rfl ?_)
  show wpAny _ _ (Builtin.SmallTypes.ownedTupleIsFree (.ref z) >>= _) _ _ _
  refine wpAny_bind ?_
  unfold Builtin.SmallTypes.ownedTupleIsFree
  refine wpAny_bind (wpAny_field hz rfl (x:=.none) rfl (wpAny_pure ?_))
  simp only [if_true]
  refine wpAny_bind (wpAny_rule ?_)
  refine wpAny_bind (wpAny_field hz rfl (x:=.ref TO) rfl ?_)
  refine wpAny_bind (wpAny_setField_rec hz (by simp) fun h₁ hz₁ hs₁=>?_)
  replace hz₁:IsZip h₁ z TI TO .ellipsis:=hz₁
  have fin:∀ {h₂:Heap} {e:Addr},(∀c o,c≠z→c≠TO→c≠i1→c≠i2→h₁.get? c = some o→h₂.get? c = some o)→IsZip h₂ z TI TO .ellipsis→(∃o,h₂.get? e = some o∧o.cls = .type "StopIteration")→wpAny (model prog w) A (setField (.ref z) 0 .none) (fun J s'=>E (.ref e) s') E {s with heap:=h₂}:=fun {h₂ e} k hz₂ he=>by
    obtain ⟨oe,hoe,hce⟩:=he
    have hez:e≠z:=fun x=>by subst x; rw [hz₂] at hoe; cases hoe; simp at hce
    exact wpAny_setField_rec hz₂ (by simp) fun h₃ J hs₃=>hE h₃ e (fun c o c1 c2 c3 c4 x=>hs₃.extBut _ _ c1 (k c o c1 c2 c3 c4 (hs₁.extBut _ _ c1 x))) ⟨oe,hs₃.extBut _ _ hez hoe,hce⟩
  refine wpAny_bind ?_
  simp only [List.zipIdx_cons,List.zipIdx_nil,List.forIn_cons,List.forIn_nil]
  refine wpAny_bind (wpAny_bind (wpAny_onRaise ?_))
  show wpAny _ _ (Builtin.SmallTypes.nextOf (.ref i1) >>= _) _ _ _
  cases hx:xs[k]? with
  | none=>exact wpAny_bind (nextOf_tupE hh (h1.extBut hs₁.extBut D.i1z) (hl1.extBut hs₁.extBut D.l1z) hx fun h₂ e hs₂ he=>fin (fun c o J U c3 j2_ x=>hs₂ _ _ c3 x) (hs₂ _ _ D.i1z.symm hz₁) he)
  | some x=>
    have hy:ys[k]? = none:=by rcases hend with h | h; rw [hx] at h; cases h; exact h
    refine wpAny_bind (nextOf_tup (h1.extBut hs₁.extBut D.i1z) (hl1.extBut hs₁.extBut D.l1z) hx fun h₂ h1₂ hs₂=>wpAny_pure ?_)
    have hTO₂:IsPair h₂ TO a b:=hs₂.extBut _ _ D.TOi1 (hs₁.extBut _ _ D.TOz hTO)
    refine wpAny_bind (wpAny_seqItems hTO₂ rfl ?_)
    refine wpAny_bind (wpAny_updateSeq_pair hTO₂ fun h₃ hTO₃ hs₃=>?_)
    refine wpAny_bind (wpAny_letGo (wpAny_pure ?_))
    refine wpAny_bind (wpAny_bind (wpAny_onRaise ?_))
    show wpAny _ _ (Builtin.SmallTypes.nextOf (.ref i2) >>= _) _ _ _
    have k3:∀c o,c≠i1→c≠TO→h₁.get? c=some o→h₃.get? c=some o:=fun c o c2 c3 e=>hs₃.extBut _ _ c3 (hs₂.extBut _ _ c2 e)
    exact wpAny_bind (nextOf_tupE hh (tupIt_at h2 fun o e=>k3 _ o D.i12.symm D.TOi2.symm (hs₁.extBut _ _ D.i2z e)) (tup_at hl2 fun o e=>k3 _ o D.l2i1 D.l2TO (hs₁.extBut _ _ D.l2z e)) hy
      fun h₄ e hs₄ he=>fin (fun c o J c2 c3 c4 x=>hs₄ _ _ c4 (k3 c o c3 c2 x)) (hs₄ _ _ D.i2z.symm (k3 _ _ D.i1z.symm D.TOz.symm hz₁)) he)
theorem zipNext_item {x y:Value} {Q:Option Value→Shared→Prop} (D:ZipApart z TI TO i1 i2 l1 l2) (S:ZipSt z TI TO i1 i2 l1 l2 xs ys k .none s.heap) (hx:xs[k]? = some x) (hy:ys[k]? = some y)
    (hQ:∀h',ZipSt z TI TO i1 i2 l1 l2 xs ys (k+1) (rawInt s.heap.objs.size) h'→IsPair h' s.heap.objs.size x y→
      (∀c o,c≠z→c≠TO→c≠i1→c≠i2→s.heap.get? c=some o→h'.get? c=some o)→Q (some (.ref s.heap.objs.size)) {s with heap:=h'}) :
    wpAny (model prog w) A (pyNext (.ref z)) Q E s:=by
  have hT:s.TypeIs (.ref z) "zip":=⟨_,S.z,rfl⟩
  unfold pyNext
  exact wpAny_bind (wpAny_attempt (wpAny_callSpecial?_slot (name:=Str.ofString "__next__") hT F.slot_zip_next (wpAny_call_entry F.slot_zip_next hT F.entry_zip_next (zip_item D S hx hy fun h' a1 a2 a3=>wpAny_pure (hQ h' a1 a2 a3)) (F.args_zip_next_1 _))))
theorem zipNext_end {Q:Option Value→Shared→Prop} (hh:A.handled=none) (D:ZipApart z TI TO i1 i2 l1 l2) (S:ZipSt z TI TO i1 i2 l1 l2 xs ys k .none s.heap) (hend:xs[k]? = none∨ys[k]? = none)
    (hQ:∀h',(∀c o,c≠z→c≠TO→c≠i1→c≠i2→s.heap.get? c=some o→h'.get? c=some o)→Q none {s with heap:=h'}) :wpAny (model prog w) A (pyNext (.ref z)) Q E s:=by
  have hT:s.TypeIs (.ref z) "zip":=⟨_,S.z,rfl⟩
  unfold pyNext
  refine wpAny_bind (wpAny_attempt (wpAny_callSpecial?_slot (name:=Str.ofString "__next__") hT F.slot_zip_next (wpAny_call_entry F.slot_zip_next hT F.entry_zip_next (zip_end hh D S hend fun h' e hk he=>?_) (F.args_zip_next_1 _))))
  obtain ⟨o,ho,hc⟩:=he
  exact wpAny_bind (wpAny_isInstance (T:="StopIteration") (b:=true) ⟨o,ho,hc⟩ isSubtype_stop (wpAny_pure (hQ _ hk)))
end
noncomputable abbrev tIter (t:Addr) :Obj:= {cls:=.type "tuple_iterator",data:=.fields #[.ref t,.int 0 0]}
theorem zip_new (l1 l2:Addr) (xs ys:Array Value) :Meets (Builtin.«zip.__new__» ⟨[.type "zip",.ref l1,.ref l2],[]⟩) (fun J R s=>s.heap.IsTuple l1 xs∧s.heap.IsTuple l2 ys∧
    ∀h',ZipSt (s.heap.objs.size+4) (s.heap.objs.size+2) (s.heap.objs.size+3) s.heap.objs.size (s.heap.objs.size+1) l1 l2 xs ys 0 .none h'→(∀c o,s.heap.get? c=some o→h'.get? c=some o)→R (.ok (.ret (.ref (s.heap.objs.size+4)))) {s with heap:=h'}):=
  .of_wp fun prog w A R s h=>by
    obtain ⟨hp,g,d,tk,os⟩:=s; obtain ⟨hl1,hl2,h⟩:=h
    have hsub:=sub_zip
    have hL1:Heap.IsTuple (Shared.heap ⟨hp,g,d,tk,os⟩) l1 xs:=hl1
    have hL2:Heap.IsTuple (Shared.heap ⟨hp.push (tIter l1),g,d,tk,os⟩) l2 ys:=Heap.IsTuple.push hl2 _
    wp_walk using wpAny_pyIter_tuple hL1,wpAny_pyIter_tuple hL2
    refine ⟨_,rfl,?_⟩
    have P:∀ {h:Heap} {c:Addr} {o:Obj} (o':Obj),h.get? c=some o→(h.push o').get? c=some o:=fun o' e=>Heap.get?_push_of_some o' e
    have N:∀ {h:Heap} {n:Nat} (o:Obj),h.objs.size=n→o.isFreed=false→(h.push o).get? n=some o:=fun {h n} o e f=>e▸Heap.get?_push_size h f
    simp only [Heap.size_push] at h ⊢
    refine h _ ⟨N _ (by simp only [Heap.size_push]) rfl,P _ (P _ (N _ (by simp only [Heap.size_push]) rfl)),⟨_,_,P _ (N _ (by simp only [Heap.size_push]) rfl)⟩,⟨_,P _ (P _ (P _ (P _ (N _ rfl rfl)))),rfl,rfl⟩,⟨_,P _ (P _ (P _ (N _ (by simp only [Heap.size_push]) rfl))),rfl,rfl⟩,Heap.IsTuple.push (Heap.IsTuple.push (Heap.IsTuple.push (Heap.IsTuple.push (Heap.IsTuple.push hl1 _) _) _) _) _,Heap.IsTuple.push (Heap.IsTuple.push (Heap.IsTuple.push (Heap.IsTuple.push (Heap.IsTuple.push hl2 _) _) _) _) _⟩ fun c o e=>P _ (P _ (P _ (P _ (P _ e))))
theorem call_zip {prog:Program} {w:World} {A:Around} {E:Value→Shared→Prop} {s:Shared} {l1 l2:Addr} {xs ys:Array Value} {Q:Value→Shared→Prop} (hl1:s.heap.IsTuple l1 xs) (hl2:s.heap.IsTuple l2 ys)
    (h:∀h',ZipSt (s.heap.objs.size+4) (s.heap.objs.size+2) (s.heap.objs.size+3) s.heap.objs.size (s.heap.objs.size+1) l1 l2 xs ys 0 .none h'→(∀c o,s.heap.get? c=some o→h'.get? c=some o)→Q (.ref (s.heap.objs.size+4)) {s with heap:=h'}) :
    wpAny (model prog w) A (call (.type "zip") [.ref l1,.ref l2]) Q E s:=
  callType_new F.called_zip (by decide) (F.typeCall_zip_2 _ _) (F.newCall_zip_2 _ _) (fun obj=>F.args_object_init_3 obj _ _) F.entry_zip_new (zip_new l1 l2 xs ys) ⟨hl1,hl2,fun h' S k=>⟨⟨_,S.z,rfl⟩,h h' S k⟩⟩
end Mv
end
section
namespace Mv
open PySem PyProof.Rows
variable [Hp]
noncomputable def Loose (y:Lay) (own:Addr→Option Nat) (Z:Addr→Prop) (h₀ h:Heap) (b:Addr) :Prop:=h₀.get? b=none∧ ¬y.wr own b∧ ¬y.F b∧ ¬Z b∧ ∃o,h.get? b=some o
section
variable {B:Heap} {y:Lay} {bv bv':List Nat} {own own' own'':Addr→Option Nat} {Z Z' Z'':Addr→Prop} {s s' s'':Shared} {h h' h₀:Heap} {fr fr':Fm} {X:Addr→Prop}
theorem Step.loose (x:Step y bv own Z s own' Z' s') {b:Addr} (l:Loose y own Z h₀ s.heap b) :Loose y own' Z' h₀ s'.heap b∧ ∀o,s.heap.get? b=some o→s'.heap.get? b=some o:=by
  obtain ⟨n0,nw,nf,nz,o,ho⟩:=l
  refine ⟨⟨n0,fun w=>?_,nf,fun z=>?_,x.ext.live b o ho⟩,fun o e=>x.ext.keep b o e nw nf⟩
  · rcases wr_mono x.on b w with w | w
    · exact nw w
    · rw [w] at ho; cases ho
  · rcases x.zn b z with z | z | z
    · exact nz z
    · exact nw (.inl z)
    · rw [z] at ho; cases ho
theorem Inv.other (I:Inv B y own Z h fr) (hx:∀b,X b→ ¬y.wr own b∧ ¬y.F b∧ ¬Z b) (k:∀b o, ¬X b→h.get? b=some o→h'.get? b=some o) :Inv B y own Z h' fr where
  wf:=I.wf
  base:=fun a o e=>k a o (fun q=>(hx a q).2.2 (I.zb a o e)) (I.base a o e)
  zb:=I.zb
  zo:=I.zo
  zl:=I.zl
  ol:=I.ol
  zL:=I.zL
  oL:=I.oL
  zF:=I.zF
  oF:=I.oF
  zlv:=fun a z=>let ⟨o,e⟩:=I.zlv a z; ⟨o,k a o (fun q=>(hx a q).2.2 z) e⟩
  olv:=fun a z=>let ⟨o,e⟩:=I.olv a z; ⟨o,k a o (fun q=>(hx a q).1 (.inl z)) e⟩
  flv:=fun a z=>let ⟨o,e,nr⟩:=I.flv a z; ⟨o,k a o (fun q=>(hx a q).2.1 z) e,nr⟩
  ok:=fun i l e=>(I.ok i l e).keeps fun o=>k _ o fun q=>(hx _ q).1 (.inr (.inr ⟨i,l,e,rfl⟩))
  nsL:=let ⟨m,hn⟩:=I.nsL; ⟨m,hn.at' fun o=>k _ o fun q=>(hx _ q).1 (.inr (.inl rfl))⟩
  at':=fun i sl e n=>let ⟨l,v,hl,r,q⟩:=I.at' i sl e n; ⟨l,v,hl,r.keeps fun o=>k _ o fun q=>(hx _ q).1 (.inr (.inr ⟨i,l,hl,rfl⟩)),
    q.mono (fun a o z=>k a o fun q=>(hx a q).2.2 z) (fun J z=>z) (fun J z=>z) fun a o z=>k a o fun q=>(hx a q).1 (.inl (by rw [z]; exact fun n=>by cases n))⟩
theorem Step.other (x:Step y bv own Z s own' Z' s') {tk:Nat} (hx:∀b,X b→s.heap.get? b=none∧ ¬y.wr own' b) (k:∀b o, ¬X b→s'.heap.get? b=some o→h'.get? b=some o) :Step y bv own Z s own' Z' {s' with heap:=h',toks:=tk}:=by
  have nx:∀a o,s.heap.get? a=some o→ ¬X a:=fun a o e q=>by rw [(hx a q).1] at e; cases e
  refine ⟨?_,⟨fun a o e nw nf=>k a o (nx a o e) (x.ext.keep a o e nw nf),fun a o e=>?_,fun a o f e=>?_⟩,x.zm,x.zn,x.on,fun i l v n hl r=>(x.bind i l v n hl r).keeps fun o=>k _ o fun q=>(hx _ q).2 (.inr (.inr ⟨i,l,hl,rfl⟩))⟩
  · obtain ⟨h,tk',rfl⟩:=x.sh; exact ⟨_,_,rfl⟩
  · obtain ⟨o',e'⟩:=x.ext.live a o e; exact ⟨o',k a o' (nx a o e) e'⟩
  · obtain ⟨sl,e'⟩:=x.ext.fram a o f e; exact ⟨sl,k a _ (nx a o e) e'⟩
theorem Loose.other {b:Addr} (l:Loose y own Z h₀ h b) (k:∃o,h'.get? b=some o) :Loose y own Z h₀ h' b:=⟨l.1,l.2.1,l.2.2.1,l.2.2.2.1,k⟩
end
theorem turn_dec {n k:Nat} (h:k≤n) :n+1 - (k+1)<n+1 - k:=Nat.sub_lt_sub_left (Nat.lt_succ_of_le h) (Nat.lt_succ_self k)
noncomputable def goers:List String:=["enumerate","zip","dict_itemiterator","dict_reverseitemiterator","odict_iterator","itertools.zip_longest","itertools.pairwise"]
theorem tgo {A:Around} {s:Shared} {g:Expr} {It:Addr} {v:Value} {o:Obj} {T:String} {Q:Unit→Shared→Prop} {E:Value→Shared→Prop} (he:s.heap.get? It=some o) (hc:o.cls = .type T) (hT:goers.contains T=false) (h:Q () s) :wpAny (model prog w) A (letOwnedTupleGo g (.ref It) v) Q E s:=by
  have key:wpAny (model prog w) A (do
      let (.ref r,.ref a):=(Value.ref It,v) | return
      let o ← load r
      match o.cls,o.data with
      | .type n,.fields vs=>
        if ["enumerate","zip","dict_itemiterator","dict_reverseitemiterator","odict_iterator","itertools.zip_longest","itertools.pairwise"].contains n && vs[0]? == some (rawInt a) then
          rule "for.unpacks-the-owned-tuple"
          updateField r 0 .none
      | _,_=>pure ()) Q E s:=by
    cases v with
    | ref a=>
      refine wpAny_bind (wpAny_load he ?_)
      obtain ⟨c,d,dt,sl⟩:=o
      cases hc
      cases dt with
      | fields vs=>
        dsimp only
        rw [if_neg (by rw [show (["enumerate","zip","dict_itemiterator","dict_reverseitemiterator","odict_iterator","itertools.zip_longest","itertools.pairwise"].contains T) = false from hT,Bool.false_and]; exact Bool.false_ne_true)]
        exact wpAny_pure h
      | _=>exact wpAny_pure h
    | _=>exact wpAny_pure h
  cases g with
  | Tuple es k p=>exact key
  | List es p=>exact key
  | _=>exact wpAny_pure h
inductive Itm where | one (v:Value) | two (x z:Value)
inductive IRep (h:Heap) (Z:Addr→Prop) :Itm→D→Prop
  | one {v:Value} {d:D} (r:Rep h Z v d) :IRep h Z (.one v) d
  | two {x z:Value} {a b:D} (r:Rep h Z x a) (q:Rep h Z z b) :IRep h Z (.two x z) (.tuple [a,b])
noncomputable def Itm.is (h h':Heap) :Itm→Value→Prop
  | .one u,v=>v=u
  | .two x z,v=> ∃T,v = .ref T∧h.get? T=none∧IsPair h' T x z
theorem IRep.mono {h h':Heap} {Z Z':Addr→Prop} {m:Itm} {d:D} (r:IRep h Z m d) (k:∀a o,Z a→h.get? a=some o→h'.get? a=some o) (z:∀a,Z a→Z' a) :IRep h' Z' m d:=by
  cases r with
  | one r=>exact .one (r.mono k z)
  | two r q=>exact .two (r.mono k z) (q.mono k z)
noncomputable def gOk (it:Itk) (g:Expr) :Prop:=it = .zip→ ∃es k p,g = .Tuple es k p
structure Wk (A:Around) (y:Lay) (it:Itk) (I:Addr) (items:List D) (fp wr:List Addr) (P:Nat→Itm→Prop) (St:Nat→Heap→Prop) :Prop where
  sub:∀b∈wr,b∈fp
  frame:∀i h h',St i h→(∀b∈fp, ∀o,h.get? b=some o→h'.get? b=some o)→St i h'
  lv:∀i h,St i h→ ∀b∈fp, ∃o,h.get? b=some o
  item:∀i (s:Shared) (g:Expr) (Q:Value→Shared→Prop) (E:Value→Shared→Prop),gOk it g→i<items.length→St i s.heap→
    (∀m v h' tk,P i m→m.is s.heap h' v→St (i+1) h'→(∀b o,b∉wr→s.heap.get? b=some o→h'.get? b=some o)→Q v {s with heap:=h',toks:=tk})→
    wpAny (model prog w) A (pyNext (.ref I)) (fun o s₁=> ∃v,o=some v∧wpAny (model prog w) A (letOwnedTupleGo g (.ref I) v) (fun J s₂=>Q v s₂) E s₁) E s
  done:∀(s:Shared) (Q:Option Value→Shared→Prop) (E:Value→Shared→Prop),St items.length s.heap→
    (∀h' tk,(∀b o,b∉wr→s.heap.get? b=some o→h'.get? b=some o)→Q none {s with heap:=h',toks:=tk})→wpAny (model prog w) A (pyNext (.ref I)) Q E s
  self:∀i (s:Shared) (Q:Value→Shared→Prop) (E:Value→Shared→Prop),St i s.heap→Q (.ref I) s→wpAny (model prog w) A (pyIter (.ref I)) Q E s
noncomputable def one1 (P:Nat→Value→Prop) (i:Nat) (m:Itm) :Prop:= ∃v,m = .one v∧P i v
theorem Wk.of {A:Around} {y:Lay} {it:Itk} {I:Addr} {items:List D} {fp wr:List Addr} {P:Nat→Value→Prop} {St:Nat→Heap→Prop} (wk:Walks prog w A I fp wr items.length P St) (lv:∀i h,St i h→ ∀b∈fp, ∃o,h.get? b=some o)
    (cls:∀i h,St i h→ ∃o T,h.get? I=some o∧o.cls = .type T∧goers.contains T=false) :Wk A y it I items fp wr (one1 P) St where
  sub:=wk.sub
  frame:=wk.frame
  lv:=lv
  item:=fun i s g Q E J hi st hQ=>wk.item i s _ E hi st fun v h' tk pv st' kp=>let ⟨_,_,e,c,n⟩:=cls _ _ st'; ⟨v,rfl,tgo (s:= {s with heap:=h',toks:=tk}) e c n (hQ (.one v) v h' tk ⟨v,rfl,pv⟩ rfl st' kp)⟩
  done:=wk.done
  self:=wk.self
structure WkAt (y:Lay) (items:List D) (fp wr:List Addr) (P:Nat→Itm→Prop) (St:Nat→Heap→Prop) (h₀:Heap) (own:Addr→Option Nat) (Z:Addr→Prop) (h:Heap) (k:Nat) :Prop where
  st:St k h
  fp:∀b∈fp,Z b∨Loose y own Z h₀ h b
  wr:∀b∈wr,Loose y own Z h₀ h b
  it:∀i m,i<items.length→P i m→ ∃d,items[i]? = some d∧IRep h Z m d
section
variable {A:Around} {B:Heap} {y:Lay} {bv bv':List Nat} {own own' own'':Addr→Option Nat} {Z Z' Z'':Addr→Prop} {s s' s'':Shared} {h h' h₀:Heap} {fr fr':Fm} {I:Addr} {items:List D} {fp wr:List Addr} {P:Nat→Itm→Prop} {St:Nat→Heap→Prop} {k:Nat} {it:Itk}
theorem WkAt.step (W:Wk A y it I items fp wr P St) (x:WkAt y items fp wr P St h₀ own Z s.heap k) (i:Inv B y own Z s.heap fr) (S:Step y bv own Z s own' Z' s') :WkAt y items fp wr P St h₀ own' Z' s'.heap k where
  st:=W.frame k _ _ x.st fun b hb o e=>(x.fp b hb).elim (fun z=>i.keepZ S.ext b o z e) fun l=>(S.loose l).2 o e
  fp:=fun b hb=>(x.fp b hb).imp (S.zm b) fun l=>(S.loose l).1
  wr:=fun b hb=>(S.loose (x.wr b hb)).1
  it:=fun j v hj p=>let ⟨d,e,r⟩:=x.it j v hj p; ⟨d,e,r.mono (i.keepZ S.ext) S.zm⟩
theorem WkAt.other (W:Wk A y it I items fp wr P St) (x:WkAt y items fp wr P St h₀ own Z h k) {X:Addr→Prop} (hx:∀b,X b→ ¬Z b∧b∉fp) (kp:∀b o, ¬X b→h.get? b=some o→h'.get? b=some o) :WkAt y items fp wr P St h₀ own Z h' k where
  st:=W.frame k _ _ x.st fun b hb o e=>kp b o (fun q=>(hx b q).2 hb) e
  fp:=fun b hb=>(x.fp b hb).imp id fun l=>l.other (let ⟨o,e⟩:=l.2.2.2.2; ⟨o,kp b o (fun q=>(hx b q).2 hb) e⟩)
  wr:=fun b hb=>(x.wr b hb).other (let ⟨o,e⟩:=(x.wr b hb).2.2.2.2; ⟨o,kp b o (fun q=>(hx b q).2 (W.sub b hb)) e⟩)
  it:=fun j v hj p=>let ⟨d,e,r⟩:=x.it j v hj p; ⟨d,e,r.mono (fun a o z=>kp a o fun q=>(hx a q).1 z) fun J z=>z⟩
theorem next_item {d:D} {g:Expr} {Q:Option Value→Shared→Prop} {Qv:Value→Shared→Prop} {E:Value→Shared→Prop} (W:Wk A y it I items fp wr P St) (gk:gOk it g) (x:WkAt y items fp wr P St s.heap own' Z' s'.heap k) (i:Inv B y own' Z' s'.heap fr) (S:Step y bv own Z s own' Z' s') (hd:items[k]? = some d)
    (hQ:∀v s₁,wpAny (model prog w) A (letOwnedTupleGo g (.ref I) v) (fun J s₂=>Qv v s₂) E s₁→Q (some v) s₁)
    (h:∀v s'' Z'',(∀a,Z' a→Z'' a)→Rep s''.heap Z'' v d→WkAt y items fp wr P St s.heap own' Z'' s''.heap (k+1)→Inv B y own' Z'' s''.heap fr→Step y bv own Z s own' Z'' s''→(∀b,Loose y own' Z' s.heap s'.heap b→b∉wr→Loose y own' Z'' s.heap s''.heap b)→(∀b o,b∉wr→s'.heap.get? b=some o→s''.heap.get? b=some o)→Qv v s'') :
    wpAny (model prog w) A (pyNext (.ref I)) Q E s':=by
  have hk:k<items.length:=(List.getElem?_eq_some_iff.mp hd).1
  refine wpAny_mono (W.item k s' g Qv E gk hk x.st fun m v h' tk hm hv hst kp=>?_) (fun o s₁ p=>?_) fun J U x=>x
  · have hX:∀b,b∈wr→ ¬y.wr own' b∧ ¬y.F b∧ ¬Z' b:=fun b hb=>⟨(x.wr b hb).2.1,(x.wr b hb).2.2.1,(x.wr b hb).2.2.2.1⟩
    have kz:∀a o,Z' a→s'.heap.get? a=some o→h'.get? a=some o:=fun a o z e=>kp a o (fun q=>(hX a q).2.2 z) e
    have I1:Inv B y own' Z' h' fr:=i.other hX kp
    have S1:Step y bv own Z s own' Z' {s' with heap:=h',toks:=tk}:=S.other (X:=fun b=>b∈wr) (fun b hb=>⟨(x.wr b hb).1,(hX b hb).1⟩) kp
    obtain ⟨d',e,r⟩:=x.it k m hk hm
    rw [hd] at e; cases e
    have r1:=r.mono kz fun J z=>z
    have it1:∀j m,j<items.length→P j m→ ∃d,items[j]? = some d∧IRep h' Z' m d:=fun j m hj p=>let ⟨d,e,r⟩:=x.it j m hj p; ⟨d,e,r.mono kz fun J z=>z⟩
    have lv:=W.lv _ _ hst
    cases m with
    | one u=>
      cases hv
      cases r1 with | one r1=>
      exact h v {s' with heap:=h',toks:=tk} Z' (fun J z=>z) r1 ⟨hst,fun b hb=>(x.fp b hb).imp id fun l=>l.other (lv b hb),fun b hb=>(x.wr b hb).other (lv b (W.sub b hb)),it1⟩ I1 S1 (fun b l n=>l.other (let ⟨o,e⟩:=l.2.2.2.2; ⟨o,kp b o n e⟩)) kp
    | two a b=>
      obtain ⟨T,rfl,nT,hT⟩:=hv
      cases r1 with | two ra rb=>
      have fT:=i.fresh nT
      have lo:∀b,Loose y own' Z' s.heap s'.heap b→(∃o,h'.get? b=some o)→Loose y own' (fun b=>Z' b∨b=T) s.heap h' b:=fun b l q=>⟨l.1,l.2.1,l.2.2.1,fun (z:Z' b∨b=T)=>z.elim l.2.2.2.1 (fun e=>by obtain ⟨o,h⟩:=l.2.2.2.2; rw [e,nT] at h; cases h),q⟩
      refine h (.ref T) {s' with heap:=h',toks:=tk} (fun b=>Z' b∨b=T) (fun J z=>.inl z) (.tuple (.inr rfl) hT (by show 2≤Sz; decide) (.cons (ra.mono (fun J U j2_ e=>e) fun J z=>.inl z) (.cons (rb.mono (fun J U j2_ e=>e) fun J z=>.inl z) .nil)))
        ⟨hst,fun b hb=>(x.fp b hb).imp .inl fun l=>lo b l (lv b hb),fun b hb=>lo b (x.wr b hb) (lv b (W.sub b hb)),fun j m hj p=>let ⟨d,e,r⟩:=it1 j m hj p; ⟨d,e,r.mono (fun J U j2_ e=>e) fun J z=>.inl z⟩⟩ (I1.addZ fT.1 fT.2.1 hT) (S1.addZ (S.old _ nT)) (fun b l n=>lo b l (let ⟨o,e⟩:=l.2.2.2.2; ⟨o,kp b o n e⟩)) kp
  · obtain ⟨v,rfl,p⟩:=p
    exact hQ v s₁ p
theorem next_done {Q:Option Value→Shared→Prop} {E:Value→Shared→Prop} (W:Wk A y it I items fp wr P St) (x:WkAt y items fp wr P St s.heap own' Z' s'.heap items.length) (i:Inv B y own' Z' s'.heap fr) (S:Step y bv own Z s own' Z' s')
    (h:∀s'',Inv B y own' Z' s''.heap fr→Step y bv own Z s own' Z' s''→(∀b o,b∉wr→s'.heap.get? b=some o→s''.heap.get? b=some o)→(∃h' tk,s''={s' with heap:=h',toks:=tk})→Q none s'') :
    wpAny (model prog w) A (pyNext (.ref I)) Q E s':=by
  refine W.done s' Q E x.st fun h' tk kp=>?_
  have hX:∀b,b∈wr→ ¬y.wr own' b∧ ¬y.F b∧ ¬Z' b:=fun b hb=>⟨(x.wr b hb).2.1,(x.wr b hb).2.2.1,(x.wr b hb).2.2.2.1⟩
  exact h {s' with heap:=h',toks:=tk} (i.other hX kp) (S.other (X:=fun b=>b∈wr) (fun b hb=>⟨(x.wr b hb).1,(hX b hb).1⟩) kp) kp ⟨_,_,rfl⟩
end
inductive PostI (A:Around) (B:Heap) (y:Lay) (it:Itk) (bv:List Nat) (own:Addr→Option Nat) (Z:Addr→Prop) (s:Shared) (out:Except Str (List Rv)×Fm) (itv:Value) (s':Shared) :Prop
  | mk (rs:List Rv) (ds items:List D) (own':Addr→Option Nat) (Z':Addr→Prop) (I:Addr) (fp wr:List Addr) (P:Nat→Itm→Prop) (St:Nat→Heap→Prop) :out.1 = .ok rs→rvVs rs=some ds→iterD it ds=some items→items.length≤Sz→itv = .ref I→Inv B y own' Z' s'.heap out.2→Step y bv own Z s own' Z' s'→Wk A y it I items fp wr P St→WkAt y items fp wr P St s.heap own' Z' s'.heap 0→PostI A B y it bv own Z s out itv s'
noncomputable def SI (A:Around) (B:Heap) (c:Cfg) (y:Lay) (m:Sem Value) (it:Itk) (src:List Ex) :Prop:= ∀(own:Addr→Option Nat) (Z:Addr→Prop) (s:Shared) (fr:Fm) (out:Except Str (List Rv)×Fm),evs c src fr=some out→
  (∀rs,out.1 = .ok rs→ ∃ds items,rvVs rs=some ds∧iterD it ds=some items)→c.hd=false→Inv B y own Z s.heap fr→
  wpAny (model prog w) A m (fun x s₁=>wpAny (model prog w) A (pyIter x) (PostI A B y it (bvEs src) own Z s out) (PostX B y (bvEs src) own Z s out) s₁) (PostX B y (bvEs src) own Z s out) s
section
variable {A:Around} {B:Heap} {mg mb:Str→Option Value} {tb:Tb} {c:Cfg} {n:Nat} {env:Env} {sc:Sc} {y:Lay}
  {bv bv':List Nat} {own own₁:Addr→Option Nat} {Z Z₁:Addr→Prop} {s s₁:Shared} {fr fr₁:Fm}
theorem evs_one {x:Ex} {out:Except Str (List Rv)×Fm} (h:evs c [x] fr=some out) :bndK (ev c x fr) (fun r fr=>some (.ok [r],fr))=some out:=by
  rw [evs_cons] at h
  rcases he:ev c x fr with _ | ⟨_ | r,f⟩
  · rw [he] at h; exact h
  · rw [he] at h; exact h
  · rw [he] at h; exact h
theorem wk_new {o:Obj} {items:List D} {fp:List Addr} {P:Nat→Value→Prop} {St:Nat→Heap→Prop} (I:Inv B y own₁ Z₁ s₁.heap fr) (S:Step y bv own Z s own₁ Z₁ s₁) (he:(s₁.heap.push o).get? s₁.heap.objs.size=some o) (hst:St 0 (s₁.heap.push o))
    (hfp:∀b∈fp,b=s₁.heap.objs.size∨Z₁ b) (hit:∀i v,i<items.length→P i v→ ∃d,items[i]? = some d∧Rep s₁.heap Z₁ v d) :
    WkAt y items fp [s₁.heap.objs.size] (one1 P) St s.heap own₁ Z₁ (s₁.heap.push o) 0:=by
  have e:=hN0 s₁.heap
  have f:=I.fresh e
  have lo:Loose y own₁ Z₁ s.heap (s₁.heap.push o) s₁.heap.objs.size:=⟨S.old _ e,f.1,f.2.1,f.2.2,o,he⟩
  refine ⟨hst,fun b hb=>(hfp b hb).elim (fun q=>.inr (q▸lo)) .inl,fun b hb=>?_,fun i m hi p=>?_⟩
  · cases hb with
    | head=>exact lo
    | tail _ h=>cases h
  · obtain ⟨v,rfl,p⟩:=p
    obtain ⟨d,e,r⟩:=hit i v hi p
    exact ⟨d,e,.one (r.mono (fun a o J=>pK _ a o) fun J z=>z)⟩
theorem si_seq {e:Expr} {x:Ex} (R:Rn A B mg mb tb c n) (H:SE A B c y (eval e env) x) :SI A B c y (eval e env) .seq [x]:=by
  intro own Z s fr out h hv hhd I
  have h:=evs_one h
  have hh:=R.hh hhd
  refine seqE (bv:=bvE x) (bv':=bvE x++[]) h .refl inl_ (fun o e=>H own Z s fr o e I) fun r fr₁ own₁ Z₁ s₁ v e₁ h I₁ S₁ S R1=>?_
  cases h
  obtain ⟨ds,items,hds,hit⟩:=hv _ rfl
  simp only [rvVs] at hds
  cases hr:rvV r with
  | none=>rw [hr] at hds; cases hds
  | some d=>
    rw [hr] at hds
    cases hds
    obtain ⟨Z₂,I₂,S₂,R₂⟩:=R1.freeze I₁ S hr
    have fin:∀(o:Obj) (fp:List Addr) (P:Nat→Itm→Prop) (St:Nat→Heap→Prop),items.length≤Sz→Wk A y .seq s₁.heap.objs.size items fp [s₁.heap.objs.size] P St→WkAt y items fp [s₁.heap.objs.size] P St s.heap own₁ Z₂ (s₁.heap.push o) 0→
        PostI A B y .seq (bvE x++[]) own Z s (.ok [r],fr₁) (.ref s₁.heap.objs.size) {s₁ with heap:=s₁.heap.push o}:=fun o fp P St hl W WA=>
      ⟨[r],[d],items,own₁,Z₂,_,fp,_,P,St,rfl,by simp [rvVs,hr],hit,hl,rfl,I₂.grow (pK o),S₂.trans (.grow (tk:=s₁.toks) (pK o)),W,WA⟩
    have lt:∀a o,s₁.heap.get? a=some o→a≠s₁.heap.objs.size:=fun a o e q=>by rw [q,hN0] at e; cases e
    cases d with
    | list xs=>
      cases hit
      cases R₂ with
      | @list a vs _ m za hl hn Rs=>
      refine wpAny_pyIter_list hl.isList (fin _ _ _ _ (by rw [← Rs.length]; exact hn) (.of ?_ (fun i h st b hb=>?_) fun i h st=>let ⟨o,e,hc,_⟩:=st.1; ⟨o,_,e,hc,by decide⟩) (wk_new (fp:=[s₁.heap.objs.size,a]) (P:=fun i v=>vs.toArray[i]? = some v) (St:=fun i h=>h.IsListIter s₁.heap.objs.size a i∧h.IsList a vs.toArray) I₂ S₂ (Heap.get?_push_size _ rfl) ⟨⟨_,Heap.get?_push_size _ rfl,rfl,rfl⟩,(IsL.push hl _).isList⟩ (fun b hb=>?_) fun i v J p=>?_))
      · have:=Walks.list (prog:=prog) (w:=w) (A:=A) hh s₁.heap.objs.size a (lt _ _ hl) vs.toArray
        rw [show vs.toArray.size=items.length from (List.size_toArray ..).trans Rs.length] at this; exact this
      · rcases List.mem_cons.mp hb with rfl | hb
        · obtain ⟨o,e,_⟩:=st.1; exact ⟨o,e⟩
        · rw [List.mem_singleton] at hb; subst hb; obtain ⟨o,e,_⟩:=st.2; exact ⟨o,e⟩
      · rcases List.mem_cons.mp hb with rfl | hb
        · exact .inl rfl
        · rw [List.mem_singleton] at hb; subst hb; exact .inr za
      · exact Rs.getV (by simpa using p)
    | tuple xs=>
      cases hit
      cases R₂ with
      | @tuple a vs _ m za hl hn Rs=>
      have ht:s₁.heap.IsTuple a vs.toArray:=⟨_,hl,rfl,_,rfl⟩
      refine wpAny_pyIter_tuple ht (fin _ _ _ _ (by rw [← Rs.length]; exact hn) (.of ?_ (fun i h st b hb=>?_) fun i h st=>let ⟨o,e,hc,_⟩:=st.1; ⟨o,_,e,hc,by decide⟩) (wk_new (fp:=[s₁.heap.objs.size,a]) (P:=fun i v=>vs.toArray[i]? = some v) (St:=fun i h=>h.IsTupleIter s₁.heap.objs.size a i∧h.IsTuple a vs.toArray) I₂ S₂ (Heap.get?_push_size _ rfl) ⟨⟨_,Heap.get?_push_size _ rfl,rfl,rfl⟩,⟨_,pK _ _ _ hl,rfl,_,rfl⟩⟩ (fun b hb=>?_) fun i v J p=>?_))
      · have:=Walks.tuple (prog:=prog) (w:=w) (A:=A) hh s₁.heap.objs.size a (lt _ _ hl) vs.toArray
        rw [show vs.toArray.size=items.length from (List.size_toArray ..).trans Rs.length] at this; exact this
      · rcases List.mem_cons.mp hb with rfl | hb
        · obtain ⟨o,e,_⟩:=st.1; exact ⟨o,e⟩
        · rw [List.mem_singleton] at hb; subst hb; obtain ⟨o,e,_⟩:=st.2; exact ⟨o,e⟩
      · rcases List.mem_cons.mp hb with rfl | hb
        · exact .inl rfl
        · rw [List.mem_singleton] at hb; subst hb; exact .inr za
      · exact Rs.getV (by simpa using p)
    | str x=>
      cases hit
      cases R₂ with
      | str _ t hx hz=>
      have key:∀(o:Obj) (T:String),goers.contains T=false→(∀A':Around,A'.handled=none→Walks prog w A' s₁.heap.objs.size [s₁.heap.objs.size] [s₁.heap.objs.size] x.cps.size (SignAt x) (fun i h=>h.IsStrIter s₁.heap.objs.size T x t i))→(s₁.heap.push o).IsStrIter s₁.heap.objs.size T x t 0→(s₁.heap.push o).get? s₁.heap.objs.size=some o→
          PostI A B y .seq (bvE _++[]) own Z s (.ok [r],fr₁) (.ref s₁.heap.objs.size) {s₁ with heap:=s₁.heap.push o}:=fun o T hT W st he=>by
        refine fin o _ _ _ (by rw [List.length_map,Array.length_toList]; exact hz) (.of ?_ (fun i h st b hb=>?_) fun i h st=>let ⟨o,e,hc,_⟩:=st; ⟨o,_,e,hc,hT⟩) (wk_new (fp:=[s₁.heap.objs.size]) (P:=SignAt x) (St:=fun i h=>h.IsStrIter s₁.heap.objs.size T x t i) I₂ S₂ he st (fun b hb=>.inl (by rwa [List.mem_singleton] at hb)) fun i v J p=>?_)
        · have:=W A hh
          rw [show x.cps.size=(x.cps.toList.map fun c=>PyData.str ⟨#[c]⟩).length from by simp] at this; exact this
        · rw [List.mem_singleton] at hb; subst hb; obtain ⟨o,e,_⟩:=st; exact ⟨o,e⟩
        · obtain ⟨c,u,hc,rfl⟩:=p
          refine ⟨.str ⟨#[c]⟩,by rw [List.getElem?_map,Array.getElem?_toList,hc]; rfl,.str _ u ?_ (by show 1≤Sz; decide)⟩
          have hmem:c∈x.cps:=Array.mem_of_getElem? hc
          unfold PyData.strOk at hx ⊢
          rw [Array.all_eq_true'] at hx ⊢
          intro z hz'
          rw [show (⟨#[c]⟩ :Str).cps = #[c] from rfl,Array.mem_singleton] at hz'
          subst hz'
          exact hx _ hmem
      cases ha:x.cps.all (· < 128)
      · exact wpAny_pyIter_wide ha (key _ _ (by decide) (fun A' hA=>Walks.strWide hA _ x t) ⟨_,Heap.get?_push_size _ rfl,rfl,rfl⟩ (Heap.get?_push_size _ rfl))
      · exact wpAny_pyIter_ascii ha (key _ _ (by decide) (fun A' hA=>Walks.strAscii hA _ x t) ⟨_,Heap.get?_push_size _ rfl,rfl,rfl⟩ (Heap.get?_push_size _ rfl))
    | none=>cases hit
    | bool b=>cases hit
    | int i=>cases hit
    | dict kvs=>cases hit
set_option tactic.hygienic true in
theorem si_range {e:Expr} {x:Ex} {p pos:Pos} (R:Rn A B mg mb tb c n) (en:EnvOk A sc env y) (hg:sc.isG "range") (hc:CE tb sc e x) (H:SE A B c y (eval e env) x) :SI A B c y (eval (.Call (.Name "range" p) [e] [] pos) env) .range [x]:=by
  intro own Z s fr out h hv hhd I
  have h:=evs_one h
  have hh:=R.hh hhd
  refine Call_Name (args:=[e]) rfl (load_blt R.gd en I hg (by decide) (by decide) boot_range ?_)
  refine PyProof.Rows.callWith_type (first:=[]) (by rw [hc.star env []]; rfl) ?_
  rw [hc.star env []]
  refine Calls.evalArgs_plain (Calls.spliced_cons ?_)
  refine seqE (bv:=bvE x) (bv':=bvE x++[]) h .refl inl_ (fun o e=>H own Z s fr o e I) fun r fr₁ own₁ Z₁ s₁ v e₁ h I₁ S₁ S R1=>?_
  cases h
  obtain ⟨ds,items,hds,hit⟩:=hv _ rfl
  simp only [rvVs] at hds
  cases hr:rvV r with
  | none=>rw [hr] at hds; cases hds
  | some d=>
    rw [hr] at hds
    cases hds
    cases d with
    | int i=>
      obtain ⟨t,rfl⟩:=(R1.dat I₁ (rvV_D hr)).int
      have hit0:=hit
      have hit:(if -1000000000≤i∧i≤(Sz:Int) then some (rangeL 0 i.toNat) else none)=some _:=hit
      split at hit
      · rename_i hi
        cases hit
        refine Calls.spliced_nil (call_range_1 ?_)
        have hlo: -1000000000≤i:=hi.1
        have hhi:i≤16777216:=hi.2
        refine wpAny_pyIter_range (IsRange.new ..) (small_one (by exact (lin [] [] 1 (.le (.g (.c 4611686018427387904)) (.c 0)) [] rfl)) (by exact (lin [] [] 1 (.le (.a (.c 0) (.c 1)) (.c 4611686018427387904)) [] rfl)) (by exact (lin [] [i] 1 (.le (.g (.c 4611686018427387904)) (.v 0)) [(1,.le (.g (.c 1000000000)) (.v 0))] rfl (hi).1)) (by exact (lin [] [i] 1 (.le (.a (.v 0) (.c 1)) (.c 4611686018427387904)) [(1,.le (.v 0) (.n (.c 16777216)))] rfl (hi).2))) ?_
        let s₂:Shared:= {s₁ with heap:=s₁.heap.push {cls:=.type "range",data:=.fields #[.int 0 s₁.toks,.int i t,.int 1 (s₁.toks + 1)]},toks:=s₁.toks + 1 + 1}
        have I₂:Inv B y own₁ Z₁ s₂.heap fr₁:=I₁.grow (pK _)
        have S₂:Step y (bvE x++[]) own Z s own₁ Z₁ s₂:=S.trans (.grow (pK _))
        have e0:Builtin.Range.rangeSize 0 i 1=(i.toNat:Int):=by rw [rangeSize_nat]; simp
        have hlen:(rangeL 0 i.toNat).length=i.toNat:=by simp [rangeL]
        have W:=Walks.range (prog:=prog) (w:=w) (A:=A) hh s₂.heap.objs.size 0 1 i.toNat
        refine ⟨[r],[.int i],rangeL 0 i.toNat,own₁,Z₁,s₂.heap.objs.size,_,_,_,_,rfl,by simp [rvVs,hr],hit0,by rw [hlen]; show i.toNat≤16777216; omega,rfl,I₂.grow (pK _),S₂.trans (.grow (tk:=s₂.toks) (pK _)),(.of (by rw [hlen]; exact W) (fun j h st b hb=>?_) fun i h st=>⟨_,_,st,rfl,by decide⟩),wk_new (s₁:=s₂) I₂ S₂ (Heap.get?_push_size _ rfl) ?_ (fun b hb=>.inl (by rwa [List.mem_singleton] at hb)) fun j v hj p=>?_⟩
        · rw [List.mem_singleton] at hb; subst hb; exact ⟨_,st⟩
        · show IsRangeIter (s₂.heap.push _) _ _ _ _
          rw [show (0:Int)+((0:Nat) :Int)*1=0 from by simp,show ((i.toNat:Int) - ((0:Nat) :Int))=Builtin.Range.rangeSize 0 i 1 from by rw [e0]; simp]
          exact Heap.get?_push_size _ rfl
        · obtain ⟨u,rfl⟩:=p
          rw [hlen] at hj
          refine ⟨.int (0+(j:Int)),by simp [rangeL,hj],?_⟩
          rw [Int.mul_one]
          exact .int _ u
      · cases hit
    | none=>cases hit
    | bool b=>cases hit
    | str b=>cases hit
    | list b=>cases hit
    | tuple b=>cases hit
    | dict b=>cases hit
end
end Mv
end
section
namespace Mv
open PySem PyProof.Rows
variable [Hp]
section
variable {A:Around} {B:Heap} {mg mb:Str→Option Value} {tb:Tb} {c:Cfg} {n:Nat} {env:Env} {sc:Sc} {y:Lay}
  {bv bv':List Nat} {own own₁:Addr→Option Nat} {Z Z₁:Addr→Prop} {s s₁:Shared} {fr fr₁:Fm} {h h':Heap}
theorem zipL_len:∀ {xs zs:List D},(zipL xs zs).length≤xs.length
  | [],_=>Nat.zero_le _
  | _::_,[]=>Nat.zero_le _
  | _::xs,_::zs=>Nat.succ_le_succ (zipL_len (xs:=xs) (zs:=zs))
theorem zipL_at:∀(xs zs:List D) (i:Nat),i<(zipL xs zs).length→ ∃a b,(zipL xs zs)[i]? = some (.tuple [a,b])∧xs[i]? = some a∧zs[i]? = some b
  | [],_,_=>@fun hi=>absurd hi (Nat.not_lt_zero _)
  | _::_,[],_=>@fun hi=>absurd hi (Nat.not_lt_zero _)
  | a::xs,b::zs,0=>@fun J=>⟨a,b,rfl,rfl,rfl⟩
  | a::xs,b::zs,i+1=>@fun hi=>zipL_at xs zs i (Nat.lt_of_succ_lt_succ hi)
theorem zipL_min:∀(xs zs:List D),(zipL xs zs).length=xs.length∨(zipL xs zs).length=zs.length
  | [],_=>.inl rfl
  | _::_,[]=>.inr rfl
  | _::xs,_::zs=>(zipL_min xs zs).imp (congrArg (· + 1)) (congrArg (· + 1))
theorem zipL_get {xs zs:List D} {vs us:List Value} {i:Nat} (R:RepAll h Z vs xs) (Q:RepAll h Z us zs) (hi:i<(zipL xs zs).length) :∃a b x u,(zipL xs zs)[i]? = some (.tuple [a,b])∧vs[i]? = some x∧us[i]? = some u∧Rep h Z x a∧Rep h Z u b:=by
  obtain ⟨a,b,e,ea,eb⟩:=zipL_at xs zs i hi
  obtain ⟨x,hx,rx⟩:=R.get ea
  obtain ⟨u,hu,ru⟩:=Q.get eb
  exact ⟨a,b,x,u,e,hx,hu,rx,ru⟩
theorem zipL_end {xs zs:List D} {vs us:List Value} (R:RepAll h Z vs xs) (Q:RepAll h Z us zs) :vs[(zipL xs zs).length]? = none∨us[(zipL xs zs).length]? = none:=
  (zipL_min xs zs).imp (fun e=>by rw [e,← R.length]; exact List.getElem?_eq_none (Nat.le_refl _)) fun e=>by rw [e,← Q.length]; exact List.getElem?_eq_none (Nat.le_refl _)
noncomputable def two2 (vs us:List Value) (i:Nat) (m:Itm) :Prop:= ∃x u,vs[i]? = some x∧us[i]? = some u∧m = .two x u
variable {z TI TO i1 i2 l1 l2:Addr} {vs us:List Value}
theorem mem7 {P:Addr→Prop} {a b c d e f g:Addr} (h1:P a) (h2:P b) (h3:P c) (h4:P d) (h5:P e) (h6:P f) (h7:P g) :∀x∈ [a,b,c,d,e,f,g],P x:=fun x hx=>by
  simp only [List.mem_cons,List.not_mem_nil,or_false] at hx
  rcases hx with rfl | rfl | rfl | rfl | rfl | rfl | rfl <;> assumption
inductive Zlv (h:Heap) (z TI TO i1 i2:Addr) :Prop
  | mk:(∃o,h.get? z=some o)→(∃o,h.get? TI=some o)→(∃o,h.get? TO=some o)→(∃o,h.get? i1=some o)→(∃o,h.get? i2=some o)→Zlv h z TI TO i1 i2
theorem ZipSt.lv5 {k:Nat} {f0:Value} {xs ys:Array Value} (S:ZipSt z TI TO i1 i2 l1 l2 xs ys k f0 h) :Zlv h z TI TO i1 i2:=by
  obtain ⟨h1,h2,⟨_,_,h3⟩,⟨_,h4,_⟩,⟨_,h5,_⟩,_,_⟩:=S
  exact ⟨⟨_,h1⟩,⟨_,h2⟩,⟨_,h3⟩,⟨_,h4⟩,⟨_,h5⟩⟩
theorem ZipSt.lv {k:Nat} {f0:Value} {xs ys:Array Value} (S:ZipSt z TI TO i1 i2 l1 l2 xs ys k f0 h) :∀b∈ [z,TI,TO,i1,i2,l1,l2], ∃o,h.get? b=some o:=by
  obtain ⟨a,b,c,d,e⟩:=S.lv5
  obtain ⟨_,_,_,_,_,⟨_,h6,_⟩,⟨_,h7,_⟩⟩:=S
  exact mem7 a b c d e ⟨_,h6⟩ ⟨_,h7⟩
theorem wk_zip {xs zs:List D} (hh:A.handled=none) (D:ZipApart z TI TO i1 i2 l1 l2) (R:RepAll h Z vs xs) (Q:RepAll h Z us zs) :
    Wk A y .zip z (zipL xs zs) [z,TI,TO,i1,i2,l1,l2] [z,TO,i1,i2] (two2 vs us) fun k h=>ZipSt z TI TO i1 i2 l1 l2 vs.toArray us.toArray k .none h where
  sub:=fun b hb=>by
    simp only [List.mem_cons,List.not_mem_nil,or_false] at hb ⊢
    rcases hb with rfl | rfl | rfl | rfl <;> simp
  frame:=fun i h h' S k=>S.at k
  lv:=fun i h S=>S.lv
  item:=fun i s g P E gk hi S hQ=>by
    obtain ⟨es,kk,p,rfl⟩:=gk rfl
    obtain ⟨a,b,x,u,_,hx,hu,_,_⟩:=zipL_get R Q hi
    refine zipNext_item D S (by simpa using hx) (by simpa using hu) fun h' S' hT k=>⟨_,rfl,wpAny_letOwnedTupleGo_zip (s:= {s with heap:=h'}) S'.z fun h'' z'' sb=>?_⟩
    have ne:∀ {b:Addr},b≠z→ ∀o,h'.get? b=some o→h''.get? b=some o:=fun q o e=>sb.extBut _ o q e
    have tz:s.heap.objs.size≠z:=Nat.ne_of_gt (Heap.lt_size S.z)
    obtain ⟨_,t2,⟨_,_,t3⟩,t4,t5,t6,t7⟩:=S'
    exact hQ (.two x u) _ h'' s.toks ⟨x,u,hx,hu,rfl⟩ ⟨_,rfl,hN0 _,ne tz _ hT⟩ ⟨z'',ne D.TIz _ t2,⟨_,_,ne D.TOz _ t3⟩,tupIt_at t4 (ne D.i1z),tupIt_at t5 (ne D.i2z),tup_at t6 (ne D.l1z),tup_at t7 (ne D.l2z)⟩
      fun b o nb e=>ne (fun q=>nb (q▸ .head _)) o (k b o (fun q=>nb (q▸ .head _)) (fun q=>nb (q▸ .tail _ (.head _))) (fun q=>nb (q▸ .tail _ (.tail _ (.head _)))) (fun q=>nb (q▸ .tail _ (.tail _ (.tail _ (.head _))))) e)
  done:=fun s P E S hQ=>zipNext_end hh D S (by simpa using zipL_end R Q) fun h' k=>hQ h' s.toks fun b o nb e=>k b o (fun q=>nb (q▸ .head _)) (fun q=>nb (q▸ .tail _ (.head _))) (fun q=>nb (q▸ .tail _ (.tail _ (.head _)))) (fun q=>nb (q▸ .tail _ (.tail _ (.tail _ (.head _))))) e
  self:=fun i s P E S hQ=>wpAny_pyIter_zip S.z hQ
theorem evs_id {xs:List Ex} {out:Except Str (List Rv)×Fm} (h:evs c xs fr=some out) :bndK (evs c xs fr) (fun rs fr=>some (.ok rs,fr))=some out:=by
  rw [h]; obtain ⟨_ | _,_⟩:=out <;> rfl
theorem iter_zip {ds items:List D} (h:iterD .zip ds=some items) :∃xs zs,ds=[.tuple xs,.tuple zs]∧zipL xs zs=items:=by
  cases ds with
  | nil=>exact nos h
  | cons d ds=>cases d with
    | tuple xs=>cases ds with
      | nil=>exact nos h
      | cons e ds=>cases e with
        | tuple zs=>cases ds with
          | nil=>exact ⟨_,_,rfl,sos h⟩
          | cons=>exact nos h
        | _=>exact nos h
    | _=>exact nos h
theorem zip_wk {xs zs:List D} {v1 v2:List Value} {z TI TO i1 i2 l1 l2:Addr} (I₁:Inv B y own₁ Z₁ s₁.heap fr₁) (S:Step y bv own Z s own₁ Z₁ s₁) (R1:RepAll s₁.heap Z₁ v1 xs) (R2:RepAll s₁.heap Z₁ v2 zs) (z1:Z₁ l1) (z2:Z₁ l2)
    (S':ZipSt z TI TO i1 i2 l1 l2 v1.toArray v2.toArray 0 .none h') (k:∀b o,s₁.heap.get? b=some o→h'.get? b=some o) (n1:s₁.heap.get? z=none) (n2:s₁.heap.get? TI=none) (n3:s₁.heap.get? TO=none) (n4:s₁.heap.get? i1=none) (n5:s₁.heap.get? i2=none) :
    WkAt y (zipL xs zs) [z,TI,TO,i1,i2,l1,l2] [z,TO,i1,i2] (two2 v1 v2) (fun k h=>ZipSt z TI TO i1 i2 l1 l2 v1.toArray v2.toArray k .none h) s.heap own₁ Z₁ h' 0:=by
  have lo:∀ {b},s₁.heap.get? b=none→(∃o,h'.get? b=some o)→Loose y own₁ Z₁ s.heap h' b:=fun e q=>⟨S.old _ e,(I₁.fresh e).1,(I₁.fresh e).2.1,(I₁.fresh e).2.2,q⟩
  obtain ⟨e1,e2,e3,e4,e5⟩:=S'.lv5
  refine ⟨S',mem7 (.inr (lo n1 e1)) (.inr (lo n2 e2)) (.inr (lo n3 e3)) (.inr (lo n4 e4)) (.inr (lo n5 e5)) (.inl z1) (.inl z2),fun b hb=>?_,fun i m hi p=>?_⟩
  · simp only [List.mem_cons,List.not_mem_nil,or_false] at hb
    rcases hb with rfl | rfl | rfl | rfl
    · exact lo n1 e1
    · exact lo n3 e3
    · exact lo n4 e4
    · exact lo n5 e5
  · obtain ⟨x,u,hx,hu,rfl⟩:=p
    obtain ⟨a,b,x',u',e,ex,eu,ra,rb⟩:=zipL_get R1 R2 hi
    rw [hx] at ex; cases ex
    rw [hu] at eu; cases eu
    exact ⟨_,e,.two (ra.mono (fun a o J=>k a o) fun J z=>z) (rb.mono (fun a o J=>k a o) fun J z=>z)⟩
theorem si_zip {e1 e2:Expr} {x1 x2:Ex} {p pos:Pos} (R:Rn A B mg mb tb c n) (en:EnvOk A sc env y) (hg:sc.isG "zip") (F:F2 (fun e x=>CE tb sc e x∧SE A B c y (eval e env) x) [e1,e2] [x1,x2]) :
    SI A B c y (eval (.Call (.Name "zip" p) [e1,e2] [] pos) env) .zip [x1,x2]:=by
  intro own Z s fr out h hv hhd I
  have h:=evs_id h
  have hh:=R.hh hhd
  refine Call_Name (args:=[e1,e2]) rfl (load_blt R.gd en I hg (by decide) (by decide) boot_zip ?_)
  refine PyProof.Rows.callWith_type (first:=[]) (by rw [F.1.1.star env [e2],F.2.2.1.1.star env []]; rfl) (args_fn F ?_)
  refine seqEs (bv:=bvEs [x1,x2]) h .refl (fun J h=>h) (fun o e=>se_s F own Z s fr o e I) fun rs fr₁ own₁ Z₁ s₁ vs e₁ h I₁ S₁ S Rs=>?_
  cases h
  obtain ⟨ds,items,hds,hit⟩:=hv _ rfl
  obtain ⟨xs,zs,rfl,rfl⟩:=iter_zip hit
  obtain ⟨_,_,rfl,r1,r2⟩:=(Rs.repAll hds).two
  obtain ⟨l1,v1,_,rfl,t1,n1,R1,z1⟩:=(Rep.dat r1).tuple
  obtain ⟨l2,v2,_,rfl,t2,n2,R2,z2⟩:=(Rep.dat r2).tuple
  clear r1 r2 hv
  refine call_zip ⟨_,t1,rfl,_,rfl⟩ ⟨_,t2,rfl,_,rfl⟩ fun h' S' k=>wpAny_pyIter_zip (s:= {s₁ with heap:=h'}) S'.z ?_
  have nn:∀j,s₁.heap.get? (s₁.heap.objs.size+j)=none:=fun j=>Heap.get?_none_of_le (Nat.le_add_right _ _)
  exact ⟨rs,_,zipL xs zs,own₁,Z₁,_,_,_,_,_,rfl,hds,rfl,Nat.le_trans zipL_len (by rw [← R1.length]; exact n1),rfl,I₁.grow k,S.trans (.grow (tk:=s₁.toks) k),wk_zip hh (zipApart_new (Heap.lt_size t1) (Heap.lt_size t2)) R1 R2,
    zip_wk I₁ S R1 R2 z1 z2 S' k (by first | exact nn 0 | exact nn _) (by first | exact nn 0 | exact nn _) (by first | exact nn 0 | exact nn _) (by first | exact nn 0 | exact nn _) (by first | exact nn 0 | exact nn _)⟩
end
end Mv
end
section
namespace Mv
open PySem PyProof.Rows
variable [Hp]
noncomputable def mkP (env:Env) (pos:Pos) :List (Option Expr)→List Expr→List (Sem Value×Sem Value)
  | some k::ks,v::vs=>(eval k env,do let x ← eval v env; standAt pos; pure x)::mkP env pos ks vs
  | _,_=>[]
theorem mkP_shape {env:Env} {pos:Pos} :∀ {kes:List (Option Expr)} {ks:List Str} (vals:List Expr),KS kes ks→((evalEachOpt kes env).zip ((evalEach vals env).map fun v=>do let x ← v; standAt pos; pure x)=(mkP env pos kes vals).map fun p=>(some p.1,p.2))∧((mkP env pos kes vals).length=min ks.length vals.length)
  | _,_,vals,.nil=>⟨rfl,by simp [mkP]⟩
  | _,_,[],.cons t=>⟨rfl,by simp [mkP]⟩
  | _,_,v::vals,.cons t=>by
    obtain ⟨h1,h2⟩:=mkP_shape (env:=env) (pos:=pos) vals t
    refine ⟨congrArg (_ :: ·) h1,?_⟩
    show (mkP env pos _ vals).length+1=_
    rw [h2,List.length_cons,List.length_cons]; omega
section
variable {A:Around} {B:Heap} {mg mb:Str→Option Value} {tb:Tb} {c:Cfg} {n:Nat} {env:Env} {sc:Sc} {y:Lay}
  {bv bv':List Nat} {own own₁:Addr→Option Nat} {Z Z₁:Addr→Prop} {s s₁:Shared} {fr fr₁:Fm}
noncomputable def PostP (B:Heap) (y:Lay) (bv:List Nat) (own:Addr→Option Nat) (Z:Addr→Prop) (s:Shared) (ks:List Str) (out:Except Str (List Rv)×Fm) (prs:List (Value×Value)) (s':Shared) :Prop:=
  ∃vs,PostEs B y bv own Z s out vs s'∧Carries (strKind prog w) prs (ks.zip vs)
theorem pairs_s {pos:Pos} :∀ {kes:List (Option Expr)} {ks:List Str},KS kes ks→ ∀ {es:List Expr} {xs:List Ex},F2 (fun e x=>CE tb sc e x∧SE A B c y (eval e env) x) es xs→ks.length=xs.length→ ∀(own:Addr→Option Nat) (Z:Addr→Prop) (s:Shared) (fr:Fm) (out:Except Str (List Rv)×Fm),evs c xs fr=some out→Inv B y own Z s.heap fr→
    wpAny (model prog w) A (evalPairs (mkP env pos kes es)) (PostP B y (bvEs xs) own Z s ks out) (PostX B y (bvEs xs) own Z s out) s:=by
  intro kes ks hk
  induction hk with
  | nil=>
    intro es xs F hl own Z s fr out h I
    cases xs with
    | cons=>cases hl
    | nil=>cases es with
      | cons=>exact F.elim
      | nil=>cases h; exact evalPairs_nil ⟨[],⟨[],own,Z,rfl,I,.refl,trivial⟩,trivial⟩
  | @cons k kk kp kes ks t ih=>
    intro es xs F hl own Z s fr out h I
    cases xs with
    | nil=>cases hl
    | cons x xs=>cases es with
      | nil=>exact F.elim
      | cons e es=>
        rw [evs_cons] at h
        refine evalPairs_cons (wpAny_Constant_str (k:=kk) (pos:=kp) ?_)
        refine wpAny_bind (seqE (s₁:= {s with toks:=s.toks+1}) (bv:=bvE x) (bv':=bvE x++bvEs xs) h (toks_step .refl) inl_ (fun o e=>F.1.2 own Z {s with toks:=s.toks+1} fr o e I) fun r fr₁ own₁ Z₁ s₁ v e₁ h I₁ S₁ S R=>wpAny_bind (wpAny_standAt (wpAny_pure ?_)))
        obtain ⟨Z₂,I₂,S₂,R₂,_⟩:=R.frz I₁ (S₁.sub (bv':=bvE x++bvEs xs) inl_)
        have S₂':Step y (bvE x++bvEs xs) own Z s own₁ Z₂ s₁:=(toks_step (tk:=s.toks+1) .refl).trans S₂
        have ap:∀i∈plVars (frz r),i∉bvEs xs:=by rw [plVars_frz]; exact apart_of e₁ F.2.1
        rcases bnd_some h with ⟨e',f,hm,rfl⟩ | ⟨rs,f,hm,h⟩
        · refine wpAny_mono (ih F.2.2 (by simpa using hl) own₁ Z₂ s₁ fr₁ _ hm I₂) (fun vs s' p=>?_) fun e s' p=>p.up inr_ S₂'
          obtain ⟨_,⟨_,_,_,q,_⟩,_⟩:=p; cases q
        · refine wpAny_mono (ih F.2.2 (by simpa using hl) own₁ Z₂ s₁ fr₁ _ hm I₂) (fun vs s' p=>?_) fun e s' p=>p.elim
          obtain ⟨vs',⟨rs',own',Z',q,I',S',R'⟩,C⟩:=p
          cases q
          cases h
          exact ⟨v::vs',⟨r::rs,own',Z',rfl,I',S₂'.trans (S'.sub inr_),S'.rv I₂ ap R₂,R'.since S₂'.old⟩,strKind_is prog w k _,rfl,C⟩
theorem F2_len {P:Expr→Ex→Prop} :∀ {es:List Expr} {xs:List Ex},F2 P es xs→es.length=xs.length
  | [],[],_=>rfl
  | _::_,_::_,F=>congrArg (· + 1) (F2_len F.2.2)
  | [],_::_,F=>F.elim
  | _::_,[],F=>F.elim
theorem names_s {E:Value→Shared→Prop} (gd:Gd B mg mb c.glob tb) (en:EnvOk A sc env y) (I:Inv B y own Z s.heap fr) {pos:Pos} :∀ {es:List Expr} {xs:List Str} {Vs:List Value},NS sc es xs→LoadAs mg mb xs Vs→ ∀ {Q:List Value→Shared→Prop},Q Vs s→wpAny (model prog w) A (spliced (backTo pos (starEach es env))) Q E s
  | _,_,[],.nil,_,_,h=>spliced_none h
  | _,_,_::_,.cons hg t,hv,_,h=>spliced_more (load_cls gd en I hg hv.1 (names_s gd en I t hv.2 h)) rfl
  | _,_,_::_,.nil,hv,_,_=>hv.elim
  | _,_,[],.cons _ _,hv,_,_=>hv.elim
theorem LoadAs.len {mg mb:Str→Option Value} :∀ {xs:List Str} {Vs:List Value},LoadAs mg mb xs Vs→Vs.length=xs.length
  | [],[],_=>rfl
  | _::_,_::_,h=>congrArg (· + 1) h.2.len
  | [],_::_,h=>h.elim
  | _::_,[],h=>h.elim
set_option tactic.hygienic true in
theorem se_isxt {x:Str} {cs:List Str} {es:List Expr} {k i:Nat} {yes no:List Str} {p p1 p2 pos:Pos} (R:Rn A B mg mb tb c n) (en:EnvOk A sc env y) (hg:sc.isG "isinstance") (hx:sc.isV x i) (hc:NS sc es cs) (h1000:cs.length≤1000) (hs:tb.sbt.lookup cs = some (yes,no)) :
    SE A B c y (eval (.Call (.Name "isinstance" p) [.Name x p1,.Tuple es k p2] [] pos) env) (.isx i yes no):=by
  intro own Z s fr out h I
  rw [ev_isx] at h
  obtain ⟨Vs,hV,ha⟩:=R.gd.askT cs yes no hs
  split at h
  · rename_i kn hk
    obtain ⟨l,v,hl,hr,sv⟩:=I.at' i _ hk (by intro q; cases q)
    obtain ⟨b,hb,rfl⟩:=isx_out h
    obtain ⟨a,o,C,rfl,e,ho,hmg⟩:=exc_mg R.gd I sv
    have ask:AskedT B C Vs b:=by
      rcases hb with ⟨rfl,hb⟩ | ⟨rfl,hb⟩
      · exact (ha kn C hmg).1 hb
      · exact (ha kn C hmg).2 hb
    refine Call_Name (args:=[.Name x p1,.Tuple es k p2]) rfl (load_blt R.gd en I hg (biName_mem (.isi .bool)) (biName_ne (.isi .bool)) (boot_bi (.isi .bool)) ?_)
    refine biCall (b:=.isi .bool) rfl ?_
    refine Calls.evalArgs_plain (Calls.spliced_cons (load_var en hx hl hr ?_))
    refine Calls.spliced_cons (Tuple_ (k:=k) (names_s R.gd en I hc hV ?_))
    refine wpAny_newObj_type (Calls.spliced_nil ?_) (by show Vs.toArray.size≤sizeLine; rw [List.size_toArray,hV.len,← sz_line]; exact Nat.le_trans h1000 (by decide))
    have kp:∀b o,s.heap.get? b = some o→(s.heap.push {cls:=.type "tuple",data:=.seq Vs.toArray}).get? b = some o:=pK _
    exact ask prog w A _ {s with heap:=s.heap.push {cls:=.type "tuple",data:=.seq Vs.toArray}} a s.heap.objs.size o (fun a o e=>kp a o (I.base a o e)) (kp _ _ e) ho (Heap.get?_push_size _ rfl) _ fun tk=>.val (s':= {s with heap:=s.heap.push {cls:=.type "tuple",data:=.seq Vs.toArray},toks:=tk}) (I.grow kp) (.grow kp) (.bool b)
  · exact nos h
end
end Mv
end
section
namespace Mv
open PySem PyProof.Rows
variable [Hp]
section
variable {A:Around} {B:Heap} {mg mb:Str→Option Value} {tb:Tb} {c:Cfg} {n:Nat} {env:Env} {sc:Sc} {y:Lay}
  {bv bv':List Nat} {own own₁:Addr→Option Nat} {Z Z₁:Addr→Prop} {s s₁:Shared} {fr fr₁:Fm}
theorem repKV_zip {h:Heap} :∀ {ks:List Str} {vs:List Value} {ds:List D},KOk ks→RepAll h Z vs ds→RepKV h Z (ks.zip vs) (zipS ks ds)
  | [],_,_,_,_=>.nil
  | _::_,_,_,_,.nil=>.nil
  | k::ks,_,_,ok,.cons r R=>.cons (ok k (.head _)).1 (ok k (.head _)).2 r (repKV_zip (fun x hx=>ok x (.tail _ hx)) R)
theorem evs_vs:∀ {xs:List Ex} {fr fr' fr2:Fm} {rs:List Rv} {ds:List D},xs.all Ex.noPl=true→evs c xs fr=some (.ok rs,fr')→rvDs fr2 rs=some ds→rvVs rs=some ds
  | [],_,_,_,_,_,_,h,hd=>by cases h; exact hd
  | x::xs,fr,fr',fr2,rs,ds,hp,h,hd=>by
    rw [List.all_cons,Bool.and_eq_true] at hp
    rw [evs_cons] at h
    rcases bnd_some h with ⟨_,_,_,q⟩ | ⟨r,f,hm,h⟩
    · cases q
    rcases bnd_some h with ⟨_,_,_,q⟩ | ⟨rs',f',hm',h⟩
    · cases q
    cases h
    have hd:(match rvD fr2 r,rvDs fr2 rs' with | some d,some ds=>some (d::ds) | _,_=>none)=some ds:=hd
    rcases ev_val hm with ⟨d,e⟩ | ⟨p,rfl,rfl⟩
    · cases h2:rvDs fr2 rs' with
      | none=>rw [rvV_D e,h2] at hd; exact nos hd
      | some ds'=>
        rw [rvV_D e,h2] at hd
        show (match rvV r,rvVs rs' with | some d,some ds=>some (d::ds) | _,_=>none)=some ds
        rw [e,evs_vs hp.2 hm' h2]; exact hd
    · cases hp.1
theorem se_disp {kes:List (Option Expr)} {ks:List Str} {vals:List Expr} {xs:List Ex} {dp:Pos} (R:Rn A B mg mb tb c n) (hk:KS kes ks) (nd:ks.Nodup) (h15:ks≠ []∧ks.length≤15) (ok:KOk ks) (hle:ks.length=vals.length) (hp:xs.all Ex.noPl=true) (F:F2 (fun e x=>CE tb sc e x∧SE A B c y (eval e env) x) vals xs) :
    SE A B c y (eval (.Dict kes vals dp) env) (.bi (.disp ks) xs):=by
  intro own Z s fr out h I
  rw [ev_bi,show (Bi.disp ks).loops=false from rfl,Bool.and_false,if_neg Bool.false_ne_true] at h
  have hsz:=R.big I
  have hl:ks.length=xs.length:=hle.trans (F2_len F)
  · obtain ⟨sh,shl⟩:=mkP_shape (env:=env) (pos:=dp) vals hk
    have hml:(mkP env dp kes vals).length=ks.length:=by rw [shl,F2_len F,← hl]; exact (Nat.le_antisymm (lin [min ks.length ks.length,ks.length] [] 1 (.nle (.v 0) (.v 1)) [(1,.neq (.v 0) (.v 1))] rfl (Nat.min_eq_left (a:=ks.length) (b:=ks.length) (lin [ks.length] [] 1 (.nle (.v 0) (.v 0)) [] rfl))) (lin [ks.length,min ks.length ks.length] [] 1 (.nle (.v 0) (.v 1)) [(-1,.neq (.v 1) (.v 0))] rfl (Nat.min_eq_left (a:=ks.length) (b:=ks.length) (lin [ks.length] [] 1 (.nle (.v 0) (.v 0)) [] rfl))))
    have hne:mkP env dp kes vals≠ []:=fun q=>h15.1 (List.eq_nil_of_length_eq_zero (by rw [← hml,q]; rfl))
    refine wpAny_Dict_pairs (knd:=strKind prog w) sh hne (by rw [hml]; exact h15.2) ?_
    have kp0:∀b o,s.heap.get? b = some o→(s.heap.push {cls:=.type "dict",data:=.dict #[]}).get? b = some o:=fun b o e=>pK _ b o e
    have I0:Inv B y own Z (s.heap.push {cls:=.type "dict",data:=.dict #[]}) fr:=I.grow kp0
    have S0:Step y (bvEs xs) own Z s own Z {s with heap:=s.heap.push {cls:=.type "dict",data:=.dict #[]}}:=.grow (tk:=s.toks) kp0
    have nD:=hN0 s.heap
    have fD:=I.fresh nD
    have LD:Loose y own Z s.heap (s.heap.push {cls:=.type "dict",data:=.dict #[]}) s.heap.objs.size:=⟨nD,fD.1,fD.2.1,fD.2.2,_,Heap.get?_push_size _ rfl⟩
    rcases bnd_some h with ⟨e',f,hm,rfl⟩ | ⟨rs,f,hm,h⟩
    · refine wpAny_mono (pairs_s (pos:=dp) hk F hl own Z {s with heap:=s.heap.push {cls:=.type "dict",data:=.dict #[]}} fr _ hm I0) (fun prs s' p=>?_) fun e s' p=>p.up (fun J h=>h) S0
      obtain ⟨_,⟨_,_,_,q,_⟩,_⟩:=p; cases q
    · refine wpAny_mono (pairs_s (pos:=dp) hk F hl own Z {s with heap:=s.heap.push {cls:=.type "dict",data:=.dict #[]}} fr _ hm I0) (fun prs s₁ p=>?_) fun e s' p=>p.elim
      obtain ⟨vs,⟨rs',own₁,Z₁,q,I₁,S₁,R'⟩,C⟩:=p
      cases q
      dsimp only at I₁
      obtain ⟨LD₁,kD⟩:=S₁.loose LD
      refine ⟨ks.zip vs,C,(let ⟨o,es,ep,e,r⟩:=Heap.DictOf.new (knd:=strKind prog w) s.heap; ⟨o,es,ep,kD o e,r⟩),fun h' hD sb=>?_⟩
      have hX:∀b,b=s.heap.objs.size→ ¬y.wr own₁ b∧ ¬y.F b∧ ¬Z₁ b:=fun b q=>by subst q; exact ⟨LD₁.2.1,LD₁.2.2.1,LD₁.2.2.2.1⟩
      have kp:∀b o, ¬b=s.heap.objs.size→s₁.heap.get? b=some o→h'.get? b=some o:=fun b o q e=>sb.extBut b o q e
      have I₂:Inv B y own₁ Z₁ h' f:=I₁.other hX kp
      have S₂:Step y (bvEs xs) own Z s own₁ Z₁ {s₁ with heap:=h',toks:=s₁.toks+prs.length}:=(S0.trans S₁).other (X:=fun b=>b=s.heap.objs.size) (fun b q=>⟨q▸nD,(hX b q).1⟩) kp
      cases hds:rvDs f rs with
      | none=>rw [hds] at h; exact nos h
      | some ds=>
        rw [hds] at h
        have h:okV f (if ks.length=ds.length then some (.own (.dict (zipS ks ds))) else none)=some out:=h
        obtain ⟨q,hq,rfl⟩:=okV_eq h
        obtain ⟨_,rfl⟩:=ifs hq
        have RA:RepAll s₁.heap Z₁ vs ds:=R'.repAll (evs_vs hp hm hds)
        have hn:((ks.zip vs).map (·.1)).Nodup:=by rw [List.map_fst_zip (by rw [hl,R'.length.symm,evs_len hm]; exact Nat.le_refl _)]; exact nd
        rw [merged_nil_of_nodup _ hn] at hD
        have RK:RepKV h' Z₁ (ks.zip vs) (zipS ks ds):=repKV_zip ok (RA.mono (fun b o z e=>kp b o (fun q=>(hX b q).2.2 z) e) fun J z=>z)
        exact ⟨_,own₁,Z₁,rfl,I₂,S₂,_,rfl,nD,LD₁.2.1,LD₁.2.2.1,LD₁.2.2.2.1,.dict ⟨sys_ne hsz,hD⟩ (by rw [List.length_zip]; exact Nat.le_trans (Nat.min_le_left _ _) (Nat.le_trans h15.2 (by decide))) RK⟩
theorem se_bx {e:Expr} {b:Bi} {es:List Expr} {xs:List Ex} (R:Rn A B mg mb tb c n) (en:EnvOk A sc env y) (h:BX sc e b es) (hp:bxB b xs=true) (F:F2 (fun e x=>CE tb sc e x∧SE A B c y (eval e env) x) es xs) :SE A B c y (eval e env) (.bi b xs):=by
  cases h with
  | count ha hk hl=>
    match xs,F with
    | [x,z],F=>exact se_m1 ha hk hl rfl F mop_count
    | [],F=>exact F.elim
    | [_],F=>exact F.2.2.elim
    | _::_::_::_,F=>exact F.2.2.2.2.elim
  | disp hk nd h15 ok hl=>exact se_disp R hk nd h15 ok hl hp F
end
end Mv
end
section
namespace Mv
open PySem PyProof.Rows
variable [Hp]
section
variable {A:Around} {E:Value→Shared→Prop} {B:Heap} {env:Env} {sc:Sc} {y:Lay}
  {bv bv':List Nat} {own own' own₁:Addr→Option Nat} {Z Z' Z₁:Addr→Prop} {s s' s₁:Shared} {fr fr₁:Fm} {h h':Heap}
structure Put (y:Lay) (i:Nat) (l:Loc) (v:Value) (h h':Heap) :Prop where
  keep:∀a o,a≠l.addr→h.get? a=some o→h'.get? a=some o
  live:∃o,h'.get? l.addr=some o
  rd:rdL h' l v
  oth:∀j k w,j≠i→y.loc j=some k→rdL h k w→rdL h' k w
  ok:∀j k,y.loc j=some k→okL h' k
  ns:∃m,h'.Ns y.L m
theorem Put.fz (p:Put y i l v s.heap h') (I:Inv B y own Z s.heap fr) (hl:y.loc i=some l) {d:D} (R:Rep s.heap Z v d) :Inv B y own Z h' (fr.set i (.fz d)):=I.setFz hl p.keep p.live p.rd p.oth p.ok p.ns R
theorem Put.step {i:Nat} {l:Loc} {v:Value} {tk:Nat} (p:Put y i l v s.heap h') (hl:y.loc i=some l) (I:Inv B y own Z s.heap fr) :Step y [i] own Z s own Z {s with heap:=h',toks:=tk} where
  sh:=⟨_,_,rfl⟩
  ext:=by
    have ne:∀a, ¬y.wr own a→a≠l.addr:=fun a nw q=>nw (.inr (.inr ⟨i,l,hl,q.symm⟩))
    refine ⟨fun a o e nw nf=>p.keep a o (ne a nw) e,fun a o e=>?_,fun a o f e=>⟨o.slots,p.keep a o (fun q=>I.wf.nf i l hl (q▸f)) e⟩⟩
    by_cases q:a=l.addr
    · exact q▸p.live
    · exact ⟨o,p.keep a o q e⟩
  zm:=fun J z=>z
  zn:=fun J z=>.inl z
  on:=fun J U e=>.inl e
  bind:=fun j k w n hk r=>p.oth j k w (fun q=>n (by rw [q]; exact List.mem_singleton.mpr rfl)) hk r
theorem Put.owned {i:Nat} {l:Loc} {a:Addr} (p:Put y i l (.ref a) s.heap h') (I:Inv B y own Z s.heap fr) (hl:y.loc i=some l) {d:D} (nw:¬y.wr own a) (nf:¬y.F a) (nz:¬Z a) (W:OwnAt s.heap Z a d) :Inv B y (addO own a i) Z h' (fr.set i (.own d)):=
  I.setOwn hl p.keep p.rd p.oth p.ok p.ns nw nf nz W
theorem store_put {x:Str} {i:Nat} {l:Loc} {v:Value} {Q:Unit→Shared→Prop} (en:EnvOk A sc env y) (hv:sc.vars.lookup x=some i) (hf:env.kindOf x≠some .free) (hl:y.loc i=some l) (I:Inv B y own Z s.heap fr)
    (h:∀h' tk,Put y i l v s.heap h'→Q () {s with heap:=h',toks:=tk}) :wpAny (model prog w) A (storeName env x v) Q E s:=by
  rcases en.var x i hv with ⟨hk,e⟩ | ⟨hk | ⟨hk,_⟩,c,hc,e⟩
  · rw [hl] at e; cases e
    obtain ⟨m,hn⟩:=I.ok i _ hl
    refine wpAny_storeName_local hk hn (fun h' hn' hs=>h h' _ ?_) (by rw [en.kind]; rfl)
    refine ⟨fun a o q e=>hs.extBut a o q e,let ⟨o,_,_,e,_⟩:=hn'; ⟨o,e⟩,⟨_,hn',by simp⟩,fun j k w hj hk' r=>?_,fun j k hk'=>?_,?_⟩
    · by_cases q:k.addr=env.locals
      · obtain ⟨a,x',z,e1,e2,hxz⟩:=I.wf.apart j i k _ hk' hl hj q
        cases e2
        subst e1
        obtain ⟨m',hm',e'⟩:=r
        have em:m' x'=m x':=by
          obtain ⟨o,es,ep,ho,hd,hk1,hf1⟩:=hm'
          obtain ⟨o',es',ep',ho',hd',hk2,hf2⟩:=hn
          rw [ho] at ho'; cases ho'
          rw [hd] at hd'; cases hd'
          rw [← hf1,hf2]
        exact ⟨_,hn',by show (if x'=x then some v else m x')=some w; rw [if_neg hxz,← em,e']⟩
      · exact r.keeps fun o e=>hs.extBut _ o q e
    · by_cases q:k.addr=env.locals
      · cases k with
        | dict a z=>cases q; exact ⟨_,hn'⟩
        | cell a=>
          by_cases hij:j=i
          · subst hij; rw [hl] at hk'; cases hk'
          · obtain ⟨a,x',z,e1,e2,hxz⟩:=I.wf.apart j i _ _ hk' hl hij q; cases e1
      · exact (I.ok j k hk').keeps fun o e=>hs.extBut _ o q e
    · by_cases q:y.L=env.locals
      · exact ⟨_,q▸hn'⟩
      · obtain ⟨m,hm⟩:=I.nsL; exact ⟨m,hm.sameBut hs q⟩
  · rw [hl] at e; cases e
    obtain ⟨v₀,hv₀⟩:=I.ok i _ hl
    refine wpAny_storeName_cell en.kind hk hc hv₀ fun h' hc' hs=>?_
    have P:Put y i (.cell c) v s.heap h':=by
      refine ⟨fun a o q e=>hs.extBut a o q e,let ⟨o,e,_⟩:=hc'; ⟨o,e⟩,hc',fun j k w hj hk' r=>?_,fun j k hk'=>?_,?_⟩
      · by_cases q:k.addr=c
        · obtain ⟨a,x',z,e1,e2,hxz⟩:=I.wf.apart j i k _ hk' hl hj q
          cases e2
        · exact r.keeps fun o e=>hs.extBut _ o q e
      · by_cases q:k.addr=c
        · by_cases hij:j=i
          · subst hij; rw [hl] at hk'; cases hk'; exact ⟨_,hc'⟩
          · obtain ⟨a,x',z,e1,e2,hxz⟩:=I.wf.apart j i _ _ hk' hl hij q; cases e2
        · exact (I.ok j k hk').keeps fun o e=>hs.extBut _ o q e
      · obtain ⟨m,hm⟩:=I.nsL
        exact ⟨m,hm.sameBut hs fun q=>I.wf.cl i c hl q.symm⟩
    exact h h' s.toks P
  · exact absurd hk hf
noncomputable def Lay.puts (y:Lay) (C:Addr) (i:Nat) (vs:List Str) :Lay:= {y with loc:=fun j=>if i≤j then (vs[j - i]?).map (Loc.dict C) else y.loc j}
section
variable {C:Addr} {i j k:Nat} {vs:List Str} {v:Str} {l:Loc} {a:Addr}
theorem puts_at (h:vs[k]? = some v) :(y.puts C i vs).loc (i+k)=some (.dict C v):=by
  show (if i≤i+k then (vs[i+k - i]?).map (Loc.dict C) else _)=_
  rw [if_pos (Nat.le_add_right i k),Nat.add_sub_cancel_left,h]; rfl
theorem puts_get (hi:∀j l,y.loc j=some l→j<i) (h:y.loc j=some l) :(y.puts C i vs).loc j=some l:=(if_neg (Nat.not_le.mpr (hi j l h))).trans h
theorem puts_cases (h:(y.puts C i vs).loc j=some l) :(∃v,i≤j∧vs[j - i]? = some v∧l = .dict C v)∨(j<i∧y.loc j=some l):=by
  have h:(if i≤j then (vs[j - i]?).map (Loc.dict C) else y.loc j)=some l:=h
  by_cases q:i≤j
  · rw [if_pos q] at h
    cases e:vs[j - i]? with
    | none=>rw [e] at h; cases h
    | some v=>rw [e] at h; exact .inl ⟨v,q,rfl,(Option.some.inj h).symm⟩
  · rw [if_neg q] at h; exact .inr ⟨Nat.not_le.mp q,h⟩
theorem put_wr (h:(y.puts C i vs).wr own a) :y.wr own a∨a=C:=by
  rcases h with h | h | ⟨j,k,hk,rfl⟩
  · exact .inl (.inl h)
  · exact .inl (.inr (.inl h))
  · rcases puts_cases hk with ⟨_,_,_,rfl⟩ | ⟨_,hk⟩
    · exact .inr rfl
    · exact .inl (.inr (.inr ⟨j,k,hk,rfl⟩))
theorem wr_put (hi:∀j l,y.loc j=some l→j<i) (h:y.wr own a) :(y.puts C i vs).wr own a:=by
  rcases h with h | h | ⟨j,k,hk,rfl⟩
  · exact .inl h
  · exact .inr (.inl h)
  · exact .inr (.inr ⟨j,k,puts_get hi hk,rfl⟩)
theorem Inv.put {m:Str→Option Value} (I:Inv B y own Z h fr) (hi:∀j l,y.loc j=some l→j<i) (nd:vs.Nodup) (nw:¬y.wr own C) (nf:¬y.F C) (nz:¬Z C) (hn:h.Ns C m) :Inv B (y.puts C i vs) own Z h fr:=by
  have nC:∀j k,y.loc j=some k→k.addr≠C:=fun j k e q=>nw (.inr (.inr ⟨j,k,e,q⟩))
  refine ⟨⟨fun j j' k k' hk hk' hne hq=>?_,fun j k hk=>?_,I.wf.nL,fun j a hk=>?_⟩,I.base,I.zb,I.zo,fun j k hk=>?_,fun j k hk=>?_,I.zL,I.oL,I.zF,I.oF,I.zlv,I.olv,I.flv,fun j k hk=>?_,I.nsL,fun j sl e n=>?_⟩
  · rcases puts_cases hk with ⟨v,l1,e1,rfl⟩ | ⟨hj,hk⟩ <;> rcases puts_cases hk' with ⟨v',l2,e2,rfl⟩ | ⟨hj',hk'⟩
    · refine ⟨C,v,v',rfl,rfl,fun q=>hne ?_⟩
      subst q
      obtain ⟨b1,g1⟩:=List.getElem?_eq_some_iff.mp e1
      obtain ⟨b2,g2⟩:=List.getElem?_eq_some_iff.mp e2
      have:=(List.getElem_inj (h₀:=b1) (h₁:=b2) nd).mp (g1.trans g2.symm)
      exact (Nat.le_antisymm (lin [j,j',j - i,j' - i,i] [] 1 (.nle (.v 0) (.v 1)) [(1,.neq (.v 2) (.v 3)),(-1,.neq (.a (.v 2) (.v 4)) (.v 0)),(1,.neq (.a (.v 3) (.v 4)) (.v 1))] rfl this (Nat.sub_add_cancel (n:=j) (m:=i) l1) (Nat.sub_add_cancel (n:=j') (m:=i) l2)) (lin [j',j,j - i,j' - i,i] [] 1 (.nle (.v 0) (.v 1)) [(-1,.neq (.v 2) (.v 3)),(1,.neq (.a (.v 2) (.v 4)) (.v 1)),(-1,.neq (.a (.v 3) (.v 4)) (.v 0))] rfl this (Nat.sub_add_cancel (n:=j) (m:=i) l1) (Nat.sub_add_cancel (n:=j') (m:=i) l2)))
    · exact absurd hq.symm (nC _ _ hk')
    · exact absurd hq (nC _ _ (by assumption))
    · exact I.wf.apart j j' k k' hk hk' hne hq
  · rcases puts_cases hk with ⟨_,_,_,rfl⟩ | ⟨hj,hk⟩
    · exact nf
    · exact I.wf.nf j k hk
  · rcases puts_cases hk with ⟨_,_,_,q⟩ | ⟨hj,hk⟩
    · cases q
    · exact I.wf.cl j a hk
  · rcases puts_cases hk with ⟨_,_,_,rfl⟩ | ⟨hj,hk⟩
    · exact nz
    · exact I.zl j k hk
  · rcases puts_cases hk with ⟨_,_,_,rfl⟩ | ⟨hj,hk⟩
    · show own C=none
      cases q:own C with
      | none=>rfl
      | some z=>exact absurd (.inl (by rw [q]; exact fun n=>by cases n)) nw
    · exact I.ol j k hk
  · rcases puts_cases hk with ⟨_,_,_,rfl⟩ | ⟨hj,hk⟩
    · exact ⟨m,hn⟩
    · exact I.ok j k hk
  · obtain ⟨l,v,hl,r1,r⟩:=I.at' j sl e n
    exact ⟨l,v,puts_get hi hl,r1,r⟩
theorem Inv.unput (I:Inv B (y.puts C i vs) own Z h fr) (wf:y.Wf) (hi:∀j l,y.loc j=some l→j<i) (hf:∀j,i≤j→j<i+vs.length→ ∀sl,fr[j]? = some sl→sl = .no) :Inv B y own Z h fr where
  wf:=wf
  base:=I.base
  zb:=I.zb
  zo:=I.zo
  zl:=fun j k hk=>I.zl j k (puts_get hi hk)
  ol:=fun j k hk=>I.ol j k (puts_get hi hk)
  zL:=I.zL
  oL:=I.oL
  zF:=I.zF
  oF:=I.oF
  zlv:=I.zlv
  olv:=I.olv
  flv:=I.flv
  ok:=fun j k hk=>I.ok j k (puts_get hi hk)
  nsL:=I.nsL
  at':=fun j sl e n=>by
    obtain ⟨k,v,hk,r1,r⟩:=I.at' j sl e n
    rcases puts_cases hk with ⟨_,hj,q,rfl⟩ | ⟨hj,hk⟩
    · obtain ⟨b,_⟩:=List.getElem?_eq_some_iff.mp q
      exact absurd (hf j hj (by exact (lin [j,i,vs.length,j - i] [] 1 (.nle (.a (.v 0) (.c 1)) (.a (.v 1) (.v 2))) [(1,.nle (.a (.v 3) (.c 1)) (.v 2)),(-1,.neq (.a (.v 3) (.v 1)) (.v 0))] rfl b (Nat.sub_add_cancel (n:=j) (m:=i) hj))) sl e) n
    · exact ⟨k,v,hk,r1,r⟩
theorem Step.put (S:Step y bv own Z s own' Z' s') (hi:∀j l,y.loc j=some l→j<i) (hC:s.heap.get? C=none) :Step (y.puts C i vs) bv own Z s own' Z' s' where
  sh:=S.sh
  ext:=⟨fun a o e nw nf=>S.ext.keep a o e (fun q=>nw (wr_put hi q)) nf,S.ext.live,S.ext.fram⟩
  zm:=S.zm
  zn:=S.zn
  on:=S.on
  bind:=fun j k v n hk r=>by
    rcases puts_cases hk with ⟨_,_,_,rfl⟩ | ⟨hj,hk⟩
    · obtain ⟨m,⟨o,_,_,e,_⟩,_⟩:=r; rw [hC] at e; cases e
    · exact S.bind j k v n hk r
theorem Step.unput (S:Step (y.puts C i vs) bv own Z s own' Z' s') (hi:∀j l,y.loc j=some l→j<i) (hC:s.heap.get? C=none) :Step y bv own Z s own' Z' s' where
  sh:=S.sh
  ext:=⟨fun a o e nw nf=>S.ext.keep a o e (fun q=>(put_wr q).elim nw fun q=>by rw [q,hC] at e; cases e) nf,S.ext.live,S.ext.fram⟩
  zm:=S.zm
  zn:=S.zn
  on:=S.on
  bind:=fun j k v n hk r=>S.bind j k v n (puts_get hi hk) r
end
end
noncomputable def clF (env:Env) :List (Str×NameKind)→List (Str×Addr)→List (Str×Addr)
  | [],acc=>acc
  | (n,k)::r,acc=>if k == .free then clF env r ((n,(env.cells.lookup n).getD 0)::acc) else clF env r acc
theorem closureFor_some {scope:Scope} {env:Env} (h:∀x∈scope.names,x.2 = .free→ ∃c,env.cells.lookup x.1=some c) :closureFor scope env=pure (clF env scope.names []):=by
  simp only [closureFor]
  suffices H:∀(l:List (Str×NameKind)) (acc:List (Str×Addr)),(∀x∈l,x.2 = .free→ ∃c,env.cells.lookup x.1=some c)→(forIn l acc fun x r=>match x with
      | (name,kind)=>if (kind==NameKind.free)=true then do let a ← cellOf env name; pure (ForInStep.yield ((name,a)::r)) else pure (ForInStep.yield r))=(pure (clF env l acc) :Sem (List (Str×Addr))) by
    rw [H _ _ h]
    rfl
  intro l
  induction l with
  | nil=>intro acc _; rfl
  | cons x l ih=>
    intro acc hx
    obtain ⟨n,k⟩:=x
    rw [List.forIn_cons]
    cases hk:k==NameKind.free with
    | false=>
      dsimp only
      rw [hk,if_neg Bool.false_ne_true]
      refine Eq.trans ?_ ((ih acc fun x hm=>hx x (List.mem_cons_of_mem _ hm)).trans ?_)
      · rfl
      · simp [clF,hk]
    | true=>
      dsimp only
      rw [hk,if_pos rfl]
      obtain ⟨c,hc⟩:=hx (n,k) List.mem_cons_self (by simpa using hk)
      have hc':env.cells.lookup n=some c:=hc
      have:cellOf env n=pure c:=by unfold cellOf; rw [hc']
      rw [this]
      refine Eq.trans ?_ ((ih ((n,c)::acc) fun x hm=>hx x (List.mem_cons_of_mem _ hm)).trans ?_)
      · rfl
      · simp [clF,hk,hc']
set_option tactic.hygienic true in
theorem clF_ok {env:Env} :∀(l:List (Str×NameKind)) (acc:List (Str×Addr)),(∀x∈l,x.2 = .free→ ∃c,env.cells.lookup x.1=some c)→(∀p∈acc,env.cells.lookup p.1=some p.2)→ ∀p∈clF env l acc,env.cells.lookup p.1=some p.2
  | [],acc,_,h=>h
  | (n,k)::l,acc,hx,h=>by
    have hx':∀x∈l,x.2 = .free→ ∃c,env.cells.lookup x.1=some c:=fun x hm=>hx x (List.mem_cons_of_mem _ hm)
    unfold clF
    split
    · rename_i hk
      refine clF_ok l _ hx' fun p hp=>?_
      rcases List.mem_cons.mp hp with rfl | hp
      · obtain ⟨c,hc⟩:=hx (n,k) List.mem_cons_self (by simpa using hk)
        have hc':env.cells.lookup n=some c:=hc
        simp [hc']
      · exact h p hp
    · exact clF_ok l acc hx' h
theorem clF_acc {env:Env} :∀(l:List (Str×NameKind)) (acc:List (Str×Addr)), ∀p∈acc,p∈clF env l acc
  | [],acc,p,h=>h
  | (n,k)::l,acc,p,h=>by
    unfold clF
    split
    · exact clF_acc l _ p (List.mem_cons_of_mem _ h)
    · exact clF_acc l _ p h
theorem clF_mem {env:Env} :∀(l:List (Str×NameKind)) (acc:List (Str×Addr)) (x:Str×NameKind),x∈l→x.2 = .free→ ∃c,(x.1,c)∈clF env l acc
  | [],_,_,h,_=>by cases h
  | (n,k)::l,acc,x,h,hx=>by
    rcases List.mem_cons.mp h with rfl | h
    · have hk:k = .free:=hx
      subst hk
      exact ⟨(env.cells.lookup n).getD 0,by unfold clF; exact clF_acc l _ _ List.mem_cons_self⟩
    · unfold clF
      split
      · exact clF_mem l _ x h hx
      · exact clF_mem l _ x h hx
theorem lookup_of_mem {α:Type} :∀ {l:List (Str×α)} {x:Str} {c:α},(x,c)∈l→ ∃c',l.lookup x=some c'∧(x,c')∈l
  | [],_,_,h=>by cases h
  | (n,a)::l,x,c,h=>by
    rw [List.lookup_cons]
    cases hx:x==n with
    | true=>simp only [beq_iff_eq] at hx; subst hx; exact ⟨a,rfl,List.mem_cons_self⟩
    | false=>
      rcases List.mem_cons.mp h with q | h
      · cases q; simp at hx
      · obtain ⟨c',e,m⟩:=lookup_of_mem h
        exact ⟨c',e,List.mem_cons_of_mem _ m⟩
theorem mem_of_lookup {α:Type} :∀ {l:List (Str×α)} {x:Str} {c:α},l.lookup x=some c→(x,c)∈l
  | [],_,_,h=>by cases h
  | (n,a)::l,x,c,h=>by
    rw [List.lookup_cons] at h
    cases hx:x==n with
    | true=>rw [hx] at h; cases h; simp only [beq_iff_eq] at hx; subst hx; exact List.mem_cons_self
    | false=>rw [hx] at h; exact List.mem_cons_of_mem _ (mem_of_lookup h)
theorem lookup_relabel_other {env:Env} {k:NameKind} (hk:k≠ .free) :∀ {names:List (Str×NameKind)} {x:Str},names.lookup x=some k→
    (names.map fun (n,k)=>if (k==NameKind.free&&env.scope.kind == .function&&env.kindOf n==some .cell) then (n,NameKind.cell) else (n,k)).lookup x=some k
  | [],_,h=>by simp at h
  | (n,k')::r,x,h=>by
    have ih:=@lookup_relabel_other env k hk r x
    show List.lookup x ((if (k'==NameKind.free&&env.scope.kind == .function&&env.kindOf n==some .cell)=true then (n,NameKind.cell) else (n,k'))::_)=_
    cases hx:x==n with
    | true=>
      simp only [List.lookup_cons,hx] at h
      cases h
      have:(k==NameKind.free)=false:=by simpa using hk
      simp [List.lookup_cons,hx,this]
    | false=>
      simp only [List.lookup_cons,hx] at h
      by_cases hc:(k'==NameKind.free&&env.scope.kind == .function&&env.kindOf n==some .cell)=true
      · rw [if_pos hc]; simp only [List.lookup_cons,hx]; exact ih h
      · rw [if_neg hc]; simp only [List.lookup_cons,hx]; exact ih h
theorem lookup_relabel_free {env:Env} :∀ {names:List (Str×NameKind)} {x:Str},names.lookup x=some .free→
    (names.map fun (n,k)=>if (k==NameKind.free&&env.scope.kind == .function&&env.kindOf n==some .cell) then (n,NameKind.cell) else (n,k)).lookup x=some .free∨
    (names.map fun (n,k)=>if (k==NameKind.free&&env.scope.kind == .function&&env.kindOf n==some .cell) then (n,NameKind.cell) else (n,k)).lookup x=some .cell
  | [],_,h=>by simp at h
  | (n,k')::r,x,h=>by
    have ih:=@lookup_relabel_free env r x
    rw [List.map_cons]
    cases hx:x==n with
    | true=>
      simp only [List.lookup_cons,hx] at h
      cases h
      by_cases hc:(NameKind.free==NameKind.free&&env.scope.kind == .function&&env.kindOf n==some .cell)=true
      · right; show List.lookup x ((if _ then _ else _)::_)=_; rw [if_pos hc]; simp only [List.lookup_cons,hx]
      · left; show List.lookup x ((if _ then _ else _)::_)=_; rw [if_neg hc]; simp only [List.lookup_cons,hx]
    | false=>
      simp only [List.lookup_cons,hx] at h
      show List.lookup x ((if _ then _ else _)::_)=_∨List.lookup x ((if _ then _ else _)::_)=_
      by_cases hc:(k'==NameKind.free&&env.scope.kind == .function&&env.kindOf n==some .cell)=true
      · rw [if_pos hc]; simp only [List.lookup_cons,hx]; exact ih h
      · rw [if_neg hc]; simp only [List.lookup_cons,hx]; exact ih h
theorem lookup_filter {p:Str×Nat→Bool} :∀ {l:List (Str×Nat)} {x:Str} {i:Nat},(∀a b c,p (a,b)=p (a,c))→(l.filter p).lookup x=some i→l.lookup x=some i∧p (x,i)=true
  | [],_,_,_,h=>by cases h
  | (n,j)::l,x,i,hp,h=>by
    rw [List.lookup_cons]
    by_cases q:p (n,j)=true
    · rw [List.filter_cons_of_pos q,List.lookup_cons] at h
      cases hx:x==n with
      | true=>rw [hx] at h; cases h; simp only [beq_iff_eq] at hx; subst hx; exact ⟨rfl,q⟩
      | false=>rw [hx] at h; exact lookup_filter hp h
    · rw [List.filter_cons_of_neg q] at h
      obtain ⟨h1,h2⟩:=lookup_filter hp h
      cases hx:x==n with
      | true=>simp only [beq_iff_eq] at hx; subst hx; rw [hp x i j] at h2; exact absurd h2 q
      | false=>exact ⟨h1,h2⟩
theorem lookup_app {l r:List (Str×Nat)} {x:Str} {i:Nat} :(l++r).lookup x=some i→l.lookup x=some i∨r.lookup x=some i:=by
  induction l with
  | nil=>exact .inr
  | cons p l ih=>
    intro h
    rw [List.cons_append,List.lookup_cons] at h
    rw [List.lookup_cons]
    cases q:x==p.1 with
    | true=>rw [q] at h; exact .inl h
    | false=>rw [q] at h; exact ih h
theorem lookup_app' {l r:List (Str×Nat)} {x:Str} {i:Nat} :l.lookup x=some i→(l++r).lookup x=some i:=by
  induction l with
  | nil=>intro h; cases h
  | cons p l ih=>
    intro h
    rw [List.lookup_cons] at h
    rw [List.cons_append,List.lookup_cons]
    cases q:x==p.1 with
    | true=>rw [q] at h; exact h
    | false=>rw [q] at h; exact ih h
theorem zipIdx_lk {x:Str} :∀ {vs:List Str} {i k:Nat},vs.Nodup→vs[k]? = some x→(vs.zipIdx i).lookup x=some (i+k)
  | [],_,_,_,h=>by cases h
  | v::vs,i,0,_,h=>by cases h; rw [List.zipIdx_cons,List.lookup_cons,beq_self_eq_true]; rfl
  | v::vs,i,k+1,nd,h=>by
    rw [List.nodup_cons] at nd
    have q:(x==v)=false:=beq_eq_false_iff_ne.mpr fun e=>nd.1 (e▸List.mem_of_getElem? (i:=k) h)
    rw [List.zipIdx_cons,List.lookup_cons,q,Nat.add_comm k 1,← Nat.add_assoc]
    exact zipIdx_lk (i:=i+1) (k:=k) nd.2 h
theorem lookup_zipIdx {x:Str} {j:Nat} :∀ {vs:List Str} {i:Nat},(vs.zipIdx i).lookup x=some j→ ∃k,j=i+k∧vs[k]? = some x
  | [],_,h=>by cases h
  | v::vs,i,h=>by
    rw [List.zipIdx_cons,List.lookup_cons] at h
    cases q:x==v with
    | true=>rw [q] at h; cases h; exact ⟨0,rfl,by rw [beq_iff_eq.mp q]; rfl⟩
    | false=>
      rw [q] at h
      obtain ⟨k,e,hk⟩:=lookup_zipIdx h
      exact ⟨k+1,by exact (Nat.le_antisymm (lin [j,i,k] [] 1 (.nle (.v 0) (.a (.v 1) (.a (.v 2) (.c 1)))) [(1,.neq (.v 0) (.a (.a (.v 1) (.c 1)) (.v 2)))] rfl e) (lin [i,k,j] [] 1 (.nle (.a (.v 0) (.a (.v 1) (.c 1))) (.v 2)) [(-1,.neq (.v 2) (.a (.a (.v 0) (.c 1)) (.v 1)))] rfl e)),hk⟩
theorem comp_env {scope:Scope} {sc:Sc} {env:Env} {y:Lay} {vs:List Str} {i:Nat} {C:Addr} (en:EnvOk A sc env y) (ok:CompOk scope sc vs) (hi:sc.hi≤i) :
    closureFor scope env=pure (clF env scope.names [])∧EnvOk A (compSc scope sc vs i) (compEnvC scope (clF env scope.names []) C env) (y.puts C i vs):=by
  have cells:∀x∈scope.names,x.2 = .free→ ∃c,env.cells.lookup x.1=some c:=fun x hx hf=>by
    obtain ⟨h1,h0,⟨j,hj⟩,h3⟩:=ok.free x hx hf
    rcases en.var x.1 j hj with ⟨hk,_⟩ | ⟨_,c,hc,_⟩
    · rcases en.cf x.1 h3 with q | q <;> (rw [hk] at q; cases q)
    · exact ⟨c,hc⟩
  refine ⟨closureFor_some cells,⟨en.stk,fun j l hl=>?_,ok.kind,en.glob,en.blt,en.frame,fun x j hx=>?_,fun x hx=>?_,fun x hx=>?_⟩⟩
  · show j<i+vs.length
    rcases puts_cases hl with ⟨v,h1,h2,_⟩ | ⟨h1,hl⟩
    · obtain ⟨b,_⟩:=List.getElem?_eq_some_iff.mp h2; exact (lin [j,i,vs.length,j - i] [] 1 (.nle (.a (.v 0) (.c 1)) (.a (.v 1) (.v 2))) [(1,.nle (.a (.v 3) (.c 1)) (.v 2)),(-1,.neq (.a (.v 3) (.v 1)) (.v 0))] rfl b (Nat.sub_add_cancel (n:=j) (m:=i) h1))
    · exact Nat.lt_of_lt_of_le h1 (Nat.le_add_right _ _)
  · show (_=_∧_)∨_
    unfold compSc at hx
    dsimp only at hx
    rcases lookup_app hx with hx | hx
    · obtain ⟨k,rfl,hk⟩:=lookup_zipIdx hx
      exact .inl ⟨lookup_relabel_local (ok.loc x (List.mem_of_getElem? hk)),puts_at hk⟩
    · -- one of the names around
      obtain ⟨h1,h2⟩:=lookup_filter (fun J U j2_=>rfl) hx
      have hfree:scope.names.lookup x=some .free:=by simpa using h2
      have hmem:=mem_of_lookup hfree
      obtain ⟨_,h0,_,h3⟩:=ok.free _ hmem rfl
      right
      rcases en.var x j h1 with ⟨hk,_⟩ | ⟨_,c,hc,hl⟩
      · rcases en.cf x h3 with q | q <;> (rw [hk] at q; cases q)
      · refine ⟨?_,c,?_,?_⟩
        · rcases lookup_relabel_free (env:=env) hfree with q | q
          · exact .inr ⟨q,h0⟩
          · exact .inl q
        · obtain ⟨c1,hm⟩:=clF_mem (env:=env) scope.names [] _ hmem rfl
          obtain ⟨c2,e2,m2⟩:=lookup_of_mem hm
          have:=clF_ok scope.names [] cells (fun p hp=>by cases hp) _ m2
          have:env.cells.lookup x=some c2:=this
          rw [hc] at this; cases this
          exact e2
        · exact puts_get (fun j l h=>Nat.lt_of_lt_of_le (en.hi j l h) hi) hl
  · exact lookup_relabel_other (by intro q; cases q) hx
  · rcases hx with hx | hx
    · exact .inl (lookup_relabel_other (by intro q; cases q) hx)
    · exact (lookup_relabel_free hx).symm
end Mv
end
section
namespace Mv
open PySem PyProof.Rows
variable [Hp]
section
variable {A:Around} {B:Heap} {mg mb:Str→Option Value} {tb:Tb} {c:Cfg} {n:Nat} {env:Env} {sc:Sc} {y:Lay}
  {bv bv':List Nat} {own own₁:Addr→Option Nat} {Z Z₁:Addr→Prop} {s s₁:Shared} {fr fr₁:Fm}
noncomputable def PostB (B:Heap) (y:Lay) (bv:List Nat) (own:Addr→Option Nat) (Z:Addr→Prop) (s:Shared) (out:Except Str Bool×Fm) (b:Bool) (s':Shared) :Prop:=
  ∃own' Z',out.1 = .ok b∧Inv B y own' Z' s'.heap out.2∧Step y bv own Z s own' Z' s'
theorem tests_false {Q:Bool→Shared→Prop} {E:Value→Shared→Prop} :∀ {ifs:List Expr},Q false s→
    wpAny (model prog w) A (forIn ifs false fun c r=>if r=true then do let ok ← isTrue c env (eval c env); pure (ForInStep.yield ok) else pure (ForInStep.yield r)) Q E s
  | [],h=>wpAny_pure h
  | e::es,h=>by
    simp only [List.forIn_cons,Bool.false_eq_true,if_false]
    exact wpAny_bind (wpAny_pure (tests_false h))
theorem conds_sound:∀ {ifs:List Expr} {conds:List Ex},F2 (fun e x=>ST A B c y (isTrue e env (eval e env)) x) ifs conds→ ∀(own:Addr→Option Nat) (Z:Addr→Prop) (s:Shared) (fr:Fm) (out:Except Str Bool×Fm),evConds c conds fr=some out→Inv B y own Z s.heap fr→
    wpAny (model prog w) A (forIn ifs true fun c r=>if r=true then do let ok ← isTrue c env (eval c env); pure (ForInStep.yield ok) else pure (ForInStep.yield r)) (PostB B y (bvEs conds) own Z s out) (PostX B y (bvEs conds) own Z s out) s
  | [],[],_=>by
    intro own Z s fr out h I
    cases h
    exact wpAny_pure ⟨own,Z,rfl,I,.refl⟩
  | e::es,x::xs,F=>by
    intro own Z s fr out h I
    rw [evConds_cons] at h
    simp only [List.forIn_cons,if_true]
    refine wpAny_bind (wpAny_bind (seqT (bv:=bvE x) (bv':=bvE x++bvEs xs) h .refl inl_ (fun r fr₂ h=>?_) (fun o e hd=>F.1 own Z s fr o e hd I) fun r d fr₁ own₁ Z₁ s₁ h hd I₁ S₁ S=>?_))
    · split at h
      · cases h
      · exact ⟨_,by assumption⟩
    · rw [hd] at h
      dsimp only at h
      refine wpAny_pure ?_
      dsimp only
      cases ht:tD d with
      | true=>
        rw [ht,if_pos rfl] at h
        refine wpAny_mono (conds_sound F.2.2 own₁ Z₁ s₁ fr₁ out h I₁) (fun b s' p=>?_) fun e s' p=>p.sub inr_ S
        obtain ⟨own',Z',e,I',S'⟩:=p
        exact ⟨own',Z',e,I',S.trans (S'.sub inr_)⟩
      | false=>
        rw [ht,if_neg Bool.false_ne_true] at h
        cases h
        exact tests_false ⟨own₁,Z₁,rfl,I₁,S⟩
  | [],_::_,F=>F.elim
  | _::_,[],F=>F.elim
theorem clr_no:∀ {is:List Nat} {fr:Fm} {j:Nat},(∀sl,fr[j]? = some sl→sl = .no)∨j∈is→ ∀sl,(clr fr is)[j]? = some sl→sl = .no
  | [],fr,j,h=>h.elim id fun q=>nomatch q
  | i::is,fr,j,h=>clr_no (is:=is) (fr:=fr.set i .no) (by
    rcases h with h | h
    · exact .inl fun sl e=>(set_get e).elim (fun q=>q.2) fun q=>h sl q.2
    · rcases List.mem_cons.mp h with rfl | h
      · exact .inl fun sl e=>(set_get e).elim (fun q=>q.2) fun q=>absurd rfl q.1
      · exact .inr h)
theorem CG.vars {i j:Nat} {g:Expr} {vs:List Str} {t:Tgt} (h:CG i g vs t) (h1:i≤j) (h2:j<i+vs.length) :j∈tgtVars t:=by
  cases h with
  | one=>exact List.mem_singleton.mpr (Nat.le_antisymm (Nat.le_of_lt_succ h2) h1)
  | two=>
    rcases Nat.eq_or_lt_of_le h1 with q | q
    · exact q▸ .head _
    · exact List.mem_cons_of_mem _ (List.mem_singleton.mpr (Nat.le_antisymm (Nat.le_of_lt_succ h2) q))
theorem CG.gok {i:Nat} {g:Expr} {vs:List Str} {t:Tgt} {it:Itk} (h:CG i g vs t) (hz:it = .zip→t.isTup=true) :gOk it g:=fun q=>by
  cases h with
  | one=>cases hz q
  | two=>exact ⟨_,_,_,rfl⟩
theorem comp_turns {elt target iter:Expr} {ifs:List Expr} {scope:Scope} {pos:Pos} {it acc:Value} {env:Env} {R:Result→Shared→Prop} (I:Nat→Shared→Prop)
    (turn:∀n s,I n s→wpAny (model prog w) A (pyNext it) (fun r s₁=>match r with
      | none=>R (.ok .next) s₁
      | some v=>wpAny (model prog w) A (letOwnedTupleGo target it v) (fun J s₁=>wpAny (model prog w) A (assign target env v) (fun J s₂=>
          wpAny (model prog w) A (forIn ifs true fun c r=>if r=true then do let ok ← isTrue c env (eval c env); pure (ForInStep.yield ok) else pure (ForInStep.yield r)) (fun ok s₃=>
            if ok=true then wpAny (model prog w) A (eval elt env) (fun x s₄=>
              wpAny (model prog w) A (call (.builtin "list.append") [acc,x]) (fun J s₅=> ∃m,m < n∧I m s₅) (notedBy (model prog w) A env fun e s'=>R (.error e) s') s₄) (notedBy (model prog w) A env fun e s'=>R (.error e) s') s₃
            else ∃m,m<n∧I m s₃) (notedBy (model prog w) A env fun e s'=>R (.error e) s') s₂) (notedBy (model prog w) A env fun e s'=>R (.error e) s') s₁) (notedBy (model prog w) A env fun e s'=>R (.error e) s') s₁) (notedBy (model prog w) A env fun e s'=>R (.error e) s') s)
    (n:Nat) (h:I n s) :codeAny (model prog w) A (.compLoop (.ListComp elt [⟨target,iter,ifs,0⟩] scope pos) 0 it acc env) R s:=by
  refine codeAny_loop rfl I (fun n s hI=>?_) n h
  show wpAny _ A ((compTurn (.ListComp elt [⟨target,iter,ifs,0⟩] scope pos) 0 it acc env).onRaise (fun x=>do noteFrame x env; theTreesLotGoes x)) _ _ s
  refine wpAny_noted ?_
  rw [compTurn_list]
  refine wpAny_bind (wpAny_standAt (wpAny_bind (wpAny_mono (turn n s hI) (fun r s₁ h₁=>?_) fun J U h'=>h')))
  cases r with
  | none=>exact wpAny_pure h₁
  | some v=>
    refine wpAny_bind (wpAny_mono h₁ (fun J s₂ h₁=>wpAny_bind (wpAny_mono h₁ (fun J s₂ h₂=>wpAny_bind (wpAny_mono h₂ (fun ok s₃ h₃=>?_) fun J U h'=>h')) fun J U h'=>h')) fun J U h'=>h')
    cases ok with
    | false=>exact wpAny_pure ⟨rfl,h₃⟩
    | true=>exact wpAny_bind (wpAny_bind (wpAny_mono h₃ (fun x s₄ h₄=>wpAny_bind (wpAny_mono h₄ (fun J s₅ h₅=>wpAny_pure (wpAny_pure ⟨rfl,h₅⟩)) fun J U h'=>h')) fun J U h'=>h'))
theorem cg_asg {g:Expr} {vs:List Str} {t:Tgt} {v:Value} {d:D} {i:Nat} {C:Addr} {fr fr₂:Fm} {Q:Unit→Shared→Prop} {E:Value→Shared→Prop} (cg:CG i g vs t) (en:EnvOk A sc env y) (hh:A.handled=none)
    (hv:∀k v,vs[k]? = some v→sc.vars.lookup v=some (i+k)∧env.kindOf v=some .local∧y.loc (i+k)=some (.dict C v))
    (he:asgT c.pin fr t (.fz d)=some fr₂) (I:Inv B y own Z s.heap fr) (R:Rep s.heap Z v d)
    (K:∀h' tk,Inv B y own Z h' fr₂→Step y (tgtVars t) own Z s own Z {s with heap:=h',toks:=tk}→Q () {s with heap:=h',toks:=tk}) :wpAny (model prog w) A (assign g env v) Q E s:=by
  cases cg with
  | one=>
    obtain ⟨h1,h2,h3⟩:=hv 0 _ rfl
    have he:(if c.pin.contains i then none else some (fr.set i (.fz d)))=some fr₂:=he
    obtain ⟨_,rfl⟩:=ifn he
    exact wpAny_assign_Name (store_put en h1 (by rw [h2]; intro q; cases q) h3 I fun h' tk P=>K h' tk (P.fz I h3 R) (P.step h3 I))
  | two=>
    cases R with
    | @tuple a us n ds z ht hn R=>
      obtain ⟨h1,h2,h3⟩:=hv 0 _ rfl
      obtain ⟨g1,g2,g3⟩:=hv 1 _ rfl
      have he:asgs c.pin fr [i,i+1] ds=some fr₂:=he
      cases R with
      | nil=>exact nos he
      | @cons u us d ds r R=>
      have he:(if c.pin.contains i then none else asgs c.pin (fr.set i (.fz d)) [i+1] ds)=some fr₂:=he
      by_cases q:c.pin.contains i=true
      · rw [if_pos q] at he; exact nos he
      rw [if_neg q] at he
      cases R with
      | nil=>exact nos he
      | @cons u' us d' ds r' R=>
      have he:(if c.pin.contains (i+1) then none else asgs c.pin ((fr.set i (.fz d)).set (i+1) (.fz d')) [] ds)=some fr₂:=he
      by_cases q:c.pin.contains (i+1)=true
      · rw [if_pos q] at he; exact nos he
      rw [if_neg q] at he
      cases R with
      | cons=>exact nos he
      | nil=>
      obtain rfl:=sos he
      refine assign_Tuple_tuple hh ⟨_,ht,rfl,_,rfl⟩ rfl rfl fun h' ext=>?_
      have kp:∀b o,s.heap.get? b=some o→h'.get? b=some o:=fun b o e=>ext b o (Nat.ne_of_lt (Heap.lt_size e)) e
      have mo:∀ {v:Value} {d:D},Rep s.heap Z v d→Rep h' Z v d:=fun r=>r.mono (fun b o J=>kp b o) fun J z=>z
      have I0:Inv B y own Z ({s with heap:=h'} :Shared).heap fr:=I.grow kp
      refine assignInOrder_cons (wpAny_assign_Name (store_put (s:= {s with heap:=h'}) en h1 (by rw [h2]; intro q; cases q) h3 I0 fun h₁ tk P=>?_))
      have I1:=P.fz I0 h3 (mo r)
      have S1:Step y [i] own Z s own Z {s with heap:=h₁,toks:=tk}:=(Step.grow (tk:=s.toks) kp).trans (P.step h3 I0)
      have r1:=S1.rep I r'
      refine assignInOrder_cons (wpAny_assign_Name (store_put (s:= {s with heap:=h₁,toks:=tk}) en g1 (by rw [g2]; intro q; cases q) g3 I1 fun h₂ tk' P'=>assignInOrder_nil ?_))
      exact K h₂ tk' (P'.fz I1 g3 r1) ((S1.sub fun j hj=>List.mem_cons.mpr (.inl (List.mem_singleton.mp hj))).trans ((P'.step g3 I1).sub fun j hj=>List.mem_cons_of_mem _ hj))
    | _=>exact nos he
inductive CInv (B:Heap) (y:Lay) (bv:List Nat) (own:Addr→Option Nat) (Z:Addr→Prop) (s:Shared) (items:List D) (fp wr:List Addr) (P:Nat→Itm→Prop) (St:Nat→Heap→Prop) (Da:Addr) (c:Cfg) (x:Ex) (t:Tgt) (conds:List Ex) (out:Except Str Rv×Fm) (m:Nat) (s':Shared) :Prop
  | mk (k:Nat) (own':Addr→Option Nat) (Z':Addr→Prop) (fr':Fm) (vs:List Value) (ds0:List D) :m=items.length+1 - k→k≤items.length→Inv B y own' Z' s'.heap fr'→Step y bv own Z s own' Z' s'→
      WkAt y items fp wr P St s.heap own' Z' s'.heap k→Loose y own' Z' s.heap s'.heap Da→s'.heap.PlainList Da vs.toArray→RepAll s'.heap Z' vs ds0→ds0.length≤k→
      bndNK (compB c fr' x t conds (items.drop k)) (fun ds1 fr=>some (.ok (.own (.list (ds0++ds1))),fr))=some out→CInv B y bv own Z s items fp wr P St Da c x t conds out m s'
set_option tactic.hygienic true in
theorem comp_loop {elt iter g:Expr} {vs':List Str} {t:Tgt} {it:Itk} {C:Addr} {pos:Pos} {ifs:List Expr} {scope:Scope} {i:Nat} {conds:List Ex} {x:Ex} {out:Except Str Rv×Fm} {It Da:Addr} {items:List D} {fp wr:List Addr} {P:Nat→Itm→Prop} {St:Nat→Heap→Prop} {R:Result→Shared→Prop}
    (cg:CG i g vs' t) (hz:it = .zip→t.isTup=true) (hh':A.handled=none) (en:EnvOk A sc env y) (hv:∀k v,vs'[k]? = some v→sc.vars.lookup v=some (i+k)∧env.kindOf v=some .local∧y.loc (i+k)=some (.dict C v)) (hX:SE A B c y (eval elt env) x) (hC:F2 (fun e x=>ST A B c y (isTrue e env (eval e env)) x) ifs conds)
    (bvI:∀j∈tgtVars t,j∈bv) (bvX:∀j∈bvE x,j∈bv) (bvC:∀j∈bvEs conds,j∈bv) (W:Wk A y it It items fp wr P St) (hlen:items.length≤Sz) (hfpD:Da∉fp) (sD:s.heap.get? Da=none)
    (I₁:Inv B y own₁ Z₁ s₁.heap fr₁) (S₁:Step y bv own Z s own₁ Z₁ s₁) (WA₁:WkAt y items fp wr P St s.heap own₁ Z₁ s₁.heap 0) (LD₁:Loose y own₁ Z₁ s.heap s₁.heap Da) (hacc:s₁.heap.PlainList Da ([] :List Value).toArray)
    (h:bndNK (compB c fr₁ x t conds items) (fun ds fr=>some (.ok (.own (.list ds)),fr))=some out)
    (K:∀(s':Shared) (own':Addr→Option Nat) (Z':Addr→Prop) (ds:List D) (fr':Fm),out=(.ok (.own (.list ds)),clr fr' (tgtVars t))→Inv B y own' Z' s'.heap fr'→Step y bv own Z s own' Z' s'→Loose y own' Z' s.heap s'.heap Da→OwnAt s'.heap Z' Da (.list ds)→R (.ok .next) s') :
    codeAny (model prog w) A (.compLoop (.ListComp elt [⟨g,iter,ifs,0⟩] scope pos) 0 (.ref It) (.ref Da) env) R s₁:=by
  refine comp_turns (CInv B y bv own Z s items fp wr P St Da c x t conds out) ?_ (items.length+1)
    ⟨0,own₁,Z₁,fr₁,[],[],rfl,Nat.zero_le _,I₁,S₁,WA₁,LD₁,hacc,.nil,Nat.zero_le _,by rw [List.drop_zero]; exact h⟩
  clear h I₁ S₁ WA₁ LD₁ hacc
  rintro m s' ⟨k,own',Z',fr',vs,ds0,rfl,hk',I',S',WA',LD',hpl,RA,hdl,hh⟩
  by_cases hkl:k<items.length
  · clear K
    have hd:items[k]? = some items[k]:=List.getElem?_eq_getElem hkl
    rw [List.drop_eq_getElem_cons hkl] at hh
    generalize items[k]=d at hd hh
    rw [compB_cons] at hh
    refine next_item W (cg.gok hz) WA' I' S' hd (fun J U p=>p) fun val s₅ Z₅ zm₅ Rv₅ WA₅ I₅ S₅ lo₅ kp₅=>?_
    have kD:∀o,s'.heap.get? Da=some o→s₅.heap.get? Da=some o:=fun o e=>kp₅ Da o (fun hm=>hfpD (W.sub Da hm)) e
    have LD₅:=lo₅ Da LD' fun hm=>hfpD (W.sub Da hm)
    have hpl₅:=hpl.at kD
    have hvl:vs.length≤items.length:=by rw [RA.length]; exact (lin [ds0.length,items.length,k] [] 1 (.nle (.v 0) (.v 1)) [(1,.nle (.v 2) (.v 1)),(1,.nle (.v 0) (.v 2))] rfl hk' hdl)
    have RA₅:RepAll s₅.heap Z₅ vs ds0:=RA.mono (fun a o z=>kp₅ a o fun q=>(WA'.wr a q).2.2.2.1 z) zm₅
    clear kD hpl LD' RA S' WA' I' kp₅ lo₅ zm₅
    have I₅c:=I₅.clr (tgtVars t)
    generalize clr fr' (tgtVars t)=fr₅ at hh I₅c
    split at hh
    · cases hh
    · rename_i fr₆ hfr₆
      refine cg_asg cg en hh' hv hfr₆ I₅c Rv₅ fun h₆ tk I₆ S56=>?_
      have S₆:=S₅.trans (S56.sub bvI)
      have WA₆:=WA₅.step W I₅c S56
      obtain ⟨LD₆,kD₆⟩:=S56.loose LD₅
      have hpl₆:=hpl₅.at kD₆
      have RA₆:=S56.repAll I₅c RA₅
      clear S56 kD₆ hpl₅ RA₅ LD₅ WA₅ S₅ Rv₅ I₅c hfr₆
      rcases hcv:evConds c conds fr₆ with _ | ⟨e7 | b,fr₇⟩
      · rw [hcv] at hh; cases hh
      · rw [hcv] at hh; exact nos hh
      · rw [hcv] at hh
        refine wpAny_mono (conds_sound hC own' Z₅ {s₅ with heap:=h₆,toks:=tk} _ _ hcv I₆) (fun b' s₇ p=>?_) fun J U x=>x.elim
        obtain ⟨own₇,Z₇,q,I₇,S67⟩:=p
        cases q
        have S₇:=S₆.trans (S67.sub bvC)
        have WA₇:=WA₆.step W I₆ S67
        obtain ⟨LD₇,kD₇⟩:=S67.loose LD₆
        have hpl₇:=hpl₆.at kD₇
        have RA₇:=S67.repAll I₆ RA₆
        clear S67 kD₇ hpl₆ RA₆ LD₆ WA₆ S₆ I₆
        rw [bnd_ok] at hh
        cases b with
        | false=>
          rw [if_neg Bool.false_ne_true] at hh ⊢
          exact ⟨items.length+1 - (k+1),turn_dec hk',k+1,own₇,Z₇,fr₇,vs,ds0,rfl,hkl,I₇,S₇,WA₇,LD₇,hpl₇,RA₇,Nat.le_succ_of_le hdl,hh⟩
        | true=>
          rw [if_pos rfl] at hh ⊢
          rcases hev:ev c x fr₇ with _ | ⟨e8 | r,fr₈⟩
          · rw [hev] at hh; cases hh
          · rw [hev] at hh; exact nos hh
          · rw [hev,bnd_ok] at hh
            refine wpAny_mono (hX own₇ Z₇ s₇ _ _ hev I₇) (fun val s₈ p=>?_) fun J U x=>x.elim
            obtain ⟨r',own₈,Z₈,q,I₈,S78,R₈⟩:=p
            cases q
            cases hr:rvV r with
            | none=>rw [hr] at hh; cases hh
            | some d'=>
              rw [hr] at hh
              obtain ⟨Z₉,I₉,S79,R₉⟩:=R₈.freeze I₈ S78 hr
              have S₉:=S₇.trans (S79.sub bvX)
              have WA₉:=WA₇.step W I₇ S79
              obtain ⟨LD₉,kD₉⟩:=S79.loose LD₇
              have hpl₉:=hpl₇.at kD₉
              have RA₉:=S79.repAll I₇ RA₇
              clear S79 kD₉ hpl₇ RA₇ LD₇ WA₇ S₇ I₇ R₈ I₈ S78
              refine wpAny_list_append_plain (hsz:=by rw [List.size_toArray,← sz_line]; exact (lin [vs.length,items.length] [] 1 (.nle (.v 0) (.c 16777216)) [(1,.nle (.v 1) (.c 16777216)),(1,.nle (.v 0) (.v 1))] rfl hlen hvl)) hpl₉ fun h₁₀ hp₁₀ hs₁₀=>?_
              have kp:∀b o, ¬b=Da→s₈.heap.get? b=some o→h₁₀.get? b=some o:=fun b o q e=>hs₁₀.extBut b o q e
              have hXX:∀b,b=Da→ ¬y.wr own₈ b∧ ¬y.F b∧ ¬Z₉ b:=fun b q=>by subst q; exact ⟨LD₉.2.1,LD₉.2.2.1,LD₉.2.2.2.1⟩
              have kz:∀a o,Z₉ a→s₈.heap.get? a=some o→h₁₀.get? a=some o:=fun a o z e=>kp a o (fun q=>(hXX a q).2.2 z) e
              refine ⟨items.length+1 - (k+1),turn_dec hk',k+1,own₈,Z₉,fr₈,vs++[val],ds0++[d'],rfl,hkl,I₉.other hXX kp,S₉.other (tk:=s₈.toks) (X:=fun b=>b=Da) (fun b q=>⟨q▸sD,(hXX b q).1⟩) kp,
                WA₉.other W (X:=fun b=>b=Da) (fun b q=>⟨(hXX b q).2.2,q▸hfpD⟩) kp,LD₉.other (let ⟨n,e⟩:=hp₁₀; ⟨_,e⟩),by simpa using hp₁₀,(RA₉.mono kz fun J z=>z).append (.cons (R₉.mono kz fun J z=>z) .nil),by rw [List.length_append]; simp; exact hdl,?_⟩
              rcases hcb:compB c fr₈ x t conds (items.drop (k+1)) with _ | ⟨_ | ds1,f⟩
              · rw [hcb] at hh; cases hh
              · rw [hcb] at hh; exact hh
              · rw [hcb] at hh
                refine Eq.trans ?_ hh
                show some ((Except.ok (Rv.own (.list (ds0++[d']++ds1))) :Except Str Rv),f)=some (Except.ok (Rv.own (.list (ds0++d'::ds1))),f)
                rw [List.append_assoc]; rfl
  · have hke:k=items.length:=Nat.le_antisymm hk' (Nat.not_lt.mp hkl)
    subst hke
    rw [List.drop_length,compB_nil] at hh
    have hout:out=(.ok (.own (.list (ds0++[]))),clr fr' (tgtVars t)):=(Option.some.inj hh).symm
    rw [List.append_nil] at hout
    refine next_done W WA' I' S' fun s'' I'' S'' kp J=>?_
    have kD:∀o,s'.heap.get? Da=some o→s''.heap.get? Da=some o:=fun o e=>kp Da o (fun hm=>hfpD (W.sub Da hm)) e
    have kz:∀a o,Z' a→s'.heap.get? a=some o→s''.heap.get? a=some o:=fun a o z=>kp a o fun q=>(WA'.wr a q).2.2.2.1 z
    obtain ⟨n,e⟩:=hpl.at kD
    exact K s'' own' Z' ds0 fr' hout I'' S'' (LD'.other (h':=s''.heap) ⟨_,e⟩) (.list e (by rw [RA.length]; exact (lin [ds0.length,items.length] [] 1 (.nle (.v 0) (.c 16777216)) [(1,.nle (.v 1) (.c 16777216)),(1,.nle (.v 0) (.v 1))] rfl hlen hdl)) (RA.mono kz fun J z=>z))
set_option tactic.hygienic true in
theorem comp_any {elt iter g:Expr} {vs:List Str} {t:Tgt} {pos pos':Pos} {ifs:List Expr} {scope:Scope} {i:Nat} {it:Itk} {src conds:List Ex} {x:Ex} {out:Except Str Rv×Fm} {use:Option (Value→Sem Unit)} {Q:Value→Shared→Prop} {E:Value→Shared→Prop}
    (cg:CG i g vs t) (hz:it = .zip→t.isTup=true) (hh:c.hd=false→A.handled=none) (en:EnvOk A sc env y) (ok:CompOk scope sc vs) (hi:sc.hi≤i) (hI:SI A B c y (eval iter env) it src) (hfold:∀v,foldedSetIterable iter env v=pure v)
    (hX:∀env y,EnvOk A (compSc scope sc vs i) env y→SE A B c y (eval elt env) x) (hC:∀env y,EnvOk A (compSc scope sc vs i) env y→F2 (fun e x=>ST A B c y (isTrue e env (eval e env)) x) ifs conds)
    (h:ev c (.comp x t it src conds) fr=some out) (I:Inv B y own Z s.heap fr)
    (hE:∀e s',PostX B y (bvE (.comp x t it src conds)) own Z s out e s'→E e s')
    (K:∀(Da C:Addr) (s':Shared) (own':Addr→Option Nat) (Z':Addr→Prop) (ds:List D) (fr':Fm) (m:Str→Option Value),out=(.ok (.own (.list ds)),fr')→Inv B y own' Z' s'.heap fr'→Step y (bvE (.comp x t it src conds)) own Z s own' Z' s'→
      RvAt y own' Z' s.heap s'.heap (.own (.list ds)) (.ref Da)→Loose y own' Z' s.heap s'.heap C→s'.heap.Ns C m→Da≠C→compPost (model prog w) A E use Q (.ref Da) C (.ok .next) s') :
    wpAny (model prog w) A (comprehension (.ListComp elt [⟨g,iter,ifs,0⟩] scope pos) scope env pos' (newList []) false (eval iter env) use) Q E s:=by
  have hyi:∀j l,y.loc j=some l→j<i:=fun j l e=>Nat.lt_of_lt_of_le (en.hi j l e) hi
  rw [ev_comp] at h
  cases hhd:c.hd with
  | true=>rw [hhd] at h; cases h
  | false=>
  rw [hhd,if_neg Bool.false_ne_true] at h
  have bvS:∀j∈bvEs src,j∈bvE (.comp x t it src conds):=fun j hj=>List.mem_append_left _ (List.mem_append_right _ hj)
  have bvX:∀j∈bvE x,j∈bvE (.comp x t it src conds):=fun j hj=>List.mem_append_left _ (List.mem_append_left _ (List.mem_append_right _ hj))
  have bvC:∀j∈bvEs conds,j∈bvE (.comp x t it src conds):=fun j hj=>List.mem_append_right _ hj
  have bvI:∀j∈tgtVars t,j∈bvE (.comp x t it src conds):=fun j hj=>List.mem_append_left _ (List.mem_append_left _ (List.mem_append_left _ hj))
  generalize hbv:bvE (.comp x t it src conds)=bv at *
  have env':=fun C=>(comp_env (C:=C) en ok hi)
  refine wpAny_comprehension_free (use:=use) rfl hfold (env' 0).1 ok.kind ok.names ?_
  rcases bnd_some h with ⟨e,f,hm,rfl⟩ | ⟨rs,fr₁,hm,h⟩
  · refine wpAny_mono (hI own Z s fr _ hm (fun rs q=>by cases q) hhd I) (fun x s₁ p=>wpAny_mono p (fun itv s₂ p=>?_) fun J U x=>hE _ _ (x.up bvS .refl)) fun J U x=>hE _ _ (x.up bvS .refl)
    obtain ⟨_,_,_,_,_,_,_,_,_,_,q,_⟩:=p; cases q
  · split at h
    · cases h
    · rename_i ds hds
      split at h
      · cases h
      · rename_i items hitems
        refine wpAny_mono (hI own Z s fr _ hm (fun rs q=>by cases q; exact ⟨ds,items,hds,hitems⟩) hhd I) (fun xv s₁ p=>wpAny_mono p (fun itv s₂ p=>?_) fun J U x=>x.elim) fun J U x=>x.elim
        obtain ⟨rs',ds',items',own₁,Z₁,It,fp,wr,P,St,q,hds',hit',hlen,rfl,I₂,S₂,W,WA⟩:=p
        cases q
        rw [hds] at hds'; cases hds'
        rw [hitems] at hit'; cases hit'
        dsimp only at I₂
        have S₂:=S₂.sub bvS
        -- the list and the block
        refine wpAny_newObj_type (wpAny_newFunctionEnv ok.cell (by intro z hz; cases hz) (fun h₁ hns₁ hsb₁=>?_) ok.kind)
        dsimp only at hns₁ hsb₁ ⊢
        generalize hH2:s₂.heap.push {cls:=.type "list",dict:=none,data:=.seq ([] :List Value).toArray} = H2 at hns₁ hsb₁ ⊢
        let Da:=s₂.heap.objs.size
        let C:=H2.objs.size
        have hsz:H2.objs.size=s₂.heap.objs.size+1:=by rw [← hH2,Heap.size_push]
        have hDC:Da≠C:=by show s₂.heap.objs.size≠H2.objs.size; exact (fun mvo84=>(linF [H2.objs.size,s₂.heap.objs.size] [] [(-1,.neq (.v 0) (.a (.v 1) (.c 1))),(-1,.neq (.v 1) (.v 0))] rfl hsz mvo84))
        have nC:s₂.heap.get? C=none:=by
          cases e:s₂.heap.get? C with
          | none=>rfl
          | some o=>have:=Heap.lt_size e; exact absurd this (by show ¬H2.objs.size<_; exact (fun mvo88=>(linF [H2.objs.size,s₂.heap.objs.size] [] [(-1,.neq (.v 0) (.a (.v 1) (.c 1))),(1,.nle (.a (.v 0) (.c 1)) (.v 1))] rfl hsz mvo88)))
        have nD:s₂.heap.get? Da=none:=hN0 _
        have old:∀b o,s₂.heap.get? b=some o→h₁.get? b=some o:=fun b o e=>by
          have hb:=Heap.lt_size e
          exact hsb₁.extBut b o (Nat.ne_of_lt (Nat.lt_trans hb (by rw [hsz]; exact Nat.lt_succ_self _))) (Heap.get?_push_of_some _ (hH2▸Heap.get?_push_of_some _ e))
        have hacc:h₁.PlainList Da ([] :List Value).toArray:=⟨_,hsb₁.extBut _ _ hDC (Heap.get?_push_of_some _ (hH2▸Heap.get?_push_size _ rfl))⟩
        have fC:=I₂.fresh nC
        have fD:=I₂.fresh nD
        have sC:s.heap.get? C=none:=S₂.old _ nC
        have sD:s.heap.get? Da=none:=S₂.old _ nD
        have en':EnvOk A (compSc scope sc vs i) (compEnvC scope (clF env scope.names []) C env) (y.puts C i vs):=(env' C).2
        have hfpD:Da∉fp:=fun hm=>by obtain ⟨o,e⟩:=W.lv 0 _ WA.st Da hm; rw [nD] at e; cases e
        have W':Wk A (y.puts C i vs) it It items fp wr P St:=⟨W.sub,W.frame,W.lv,W.item,W.done,W.self⟩
        -- the turns
        let s₄:Shared:= {s₂ with heap:=h₁,toks:=s₂.toks+([] :List (Str×Value)).length}
        have I₄:Inv B (y.puts C i vs) own₁ Z₁ s₄.heap fr₁:=(I₂.grow old).put hyi ok.vnd fC.1 fC.2.1 fC.2.2 hns₁
        have S₄:Step (y.puts C i vs) bv own Z s own₁ Z₁ s₄:=(S₂.trans (.grow old)).put hyi sC
        have lp:∀ {b:Addr},Loose y own₁ Z₁ s.heap s₂.heap b→Loose (y.puts C i vs) own₁ Z₁ s.heap s₄.heap b:=fun {b} l=>by
          obtain ⟨l1,l2,l3,l4,o,l5⟩:=l
          exact ⟨l1,fun q=>(put_wr q).elim l2 (fun q=>by rw [q,nC] at l5; cases l5),l3,l4,o,old b o l5⟩
        have WA₄:WkAt (y.puts C i vs) items fp wr P St s.heap own₁ Z₁ s₄.heap 0:=
          ⟨W.frame 0 _ _ WA.st fun b J o e=>old b o e,fun b hb=>(WA.fp b hb).imp id lp,fun b hb=>lp (WA.wr b hb),fun j v hj p=>let ⟨d,e,r⟩:=WA.it j v hj p; ⟨d,e,r.mono (fun a o J=>old a o) fun J z=>z⟩⟩
        have LD:Loose (y.puts C i vs) own₁ Z₁ s.heap s₄.heap Da:=⟨sD,fun q=>(put_wr q).elim fD.1 fun q=>hDC q,fD.2.1,fD.2.2,let ⟨n,e⟩:=hacc; ⟨_,e⟩⟩
        have loop:codeAny (model prog w) A (.compLoop (.ListComp elt [⟨g,iter,ifs,0⟩] scope pos) 0 (.ref It) (.ref Da) (compEnvC scope (clF env scope.names []) C env)) (compPost (model prog w) A E use Q (.ref Da) C) s₄:=by
          refine comp_loop (C:=C) cg hz (hh hhd) en' (fun k v e=>⟨lookup_app' (zipIdx_lk ok.vnd e),lookup_relabel_local (ok.loc v (List.mem_of_getElem? e)),puts_at e⟩) (hX _ _ en') (hC _ _ en') bvI bvX bvC W' hlen hfpD sD I₄ S₄ WA₄ LD hacc h fun s'' own' Z' ds0 fr' hout I'' S'' LD'' OA=>?_
          have at0:∃v,vs[0]? = some v:=by cases cg <;> exact ⟨_,rfl⟩
          obtain ⟨v0,at0⟩:=at0
          have at0:=puts_at (y:=y) (C:=C) (i:=i) at0
          obtain ⟨m,hm⟩:=I''.ok _ _ at0
          refine K Da C s'' own' Z' ds0 _ m hout ((I''.clr (tgtVars t)).unput I.wf hyi fun j h1 h2=>clr_no (.inr (cg.vars h1 h2))) (S''.unput hyi sC) ⟨Da,rfl,sD,fun q=>LD''.2.1 (wr_put hyi q),LD''.2.2.1,LD''.2.2.2.1,OA⟩ ⟨sC,fun q=>?_,I''.wf.nf _ _ at0,I''.zl _ _ at0,let ⟨o,_,_,e,_⟩:=hm; ⟨o,e⟩⟩ hm hDC
          rcases q with q | q | ⟨j,l,hl,q⟩
          · exact q (I''.ol _ _ at0)
          · obtain ⟨m,o,_,_,e,_⟩:=I₂.nsL; rw [← q,nC] at e; cases e
          · obtain ⟨o,e⟩:=(I₂.ok j l hl).live; rw [q,nC] at e; cases e
        exact codeAny_compStart_list loop (W.self 0 _ _ _ WA₄.st loop)
theorem se_comp {elt iter g:Expr} {vs:List Str} {t:Tgt} {pos:Pos} {ifs:List Expr} {scope:Scope} {i:Nat} {it:Itk} {src conds:List Ex} {x:Ex}
    (cg:CG i g vs t) (hz:it = .zip→t.isTup=true) (hh:c.hd=false→A.handled=none) (en:EnvOk A sc env y) (ok:CompOk scope sc vs) (hi:sc.hi≤i) (hI:SI A B c y (eval iter env) it src) (hfold:∀v,foldedSetIterable iter env v=pure v)
    (hX:∀env y,EnvOk A (compSc scope sc vs i) env y→SE A B c y (eval elt env) x) (hC:∀env y,EnvOk A (compSc scope sc vs i) env y→F2 (fun e x=>ST A B c y (isTrue e env (eval e env)) x) ifs conds) :
    SE A B c y (eval (.ListComp elt [⟨g,iter,ifs,0⟩] scope pos) env) (.comp x t it src conds):=by
  intro own Z s fr out h I
  rw [eval_ListComp]
  refine comp_any (use:=none) cg hz hh en ok hi hI hfold hX hC h I (fun J U x=>x) fun D C s' own' Z' ds fr' m ho I' S' R' LC hm hDC=>?_
  subst ho
  refine ⟨m,hm,fun h' hs=>?_⟩
  obtain ⟨a,q,n0,nw,nf,nz,W⟩:=R'
  cases q
  have kp:∀b o, ¬b=C→s'.heap.get? b=some o→h'.get? b=some o:=fun b o q e=>hs.extBut b o q e
  have hXX:∀b,b=C→ ¬y.wr own' b∧ ¬y.F b∧ ¬Z' b:=fun b q=>by subst q; exact ⟨LC.2.1,LC.2.2.1,LC.2.2.2.1⟩
  exact ⟨_,own',Z',rfl,I'.other hXX kp,S'.other (X:=fun b=>b=C) (fun b q=>⟨q▸LC.1,(hXX b q).1⟩) kp,_,rfl,n0,nw,nf,nz,W.mono (fun a o z=>kp a o fun q=>(hXX a q).2.2 z) (fun J z=>z) fun o e=>kp _ o hDC e⟩
end
end Mv
end
section
namespace Mv
open PySem PyProof.Rows
variable [Hp]
theorem F2.imp {P Q:Expr→Ex→Prop} (h:∀e x,P e x→Q e x) :∀ {es:List Expr} {xs:List Ex},F2 P es xs→F2 Q es xs
  | [],[]=>@fun J=>trivial
  | _::_,_::_=>@fun F=>⟨h _ _ F.1,F.2.1,F.2.2.imp h⟩
  | [],_::_=>@fun F=>F.elim
  | _::_,[]=>@fun F=>F.elim
section
variable {A:Around} {B:Heap} {mg mb:Str→Option Value} {tb:Tb} {c:Cfg} {n:Nat}
noncomputable abbrev M1 (A:Around) (B:Heap) (c:Cfg) (sc:Sc) (e:Expr) (x:Ex) :Prop:= ∀(env:Env) (y:Lay),EnvOk A sc env y→SE A B c y (eval e env) x∧ST A B c y (isTrue e env (eval e env)) x
noncomputable abbrev M2 (A:Around) (B:Heap) (tb:Tb) (c:Cfg) (sc:Sc) (es:List Expr) (xs:List Ex) :Prop:= ∀(env:Env) (y:Lay),EnvOk A sc env y→F2 (fun e x=>CE tb sc e x∧SE A B c y (eval e env) x∧ST A B c y (isTrue e env (eval e env)) x) es xs
noncomputable abbrev M3 (A:Around) (B:Heap) (c:Cfg) (sc:Sc) (o:Option Expr) (x:Ex) :Prop:= ∀(env:Env) (y:Lay),EnvOk A sc env y→SE A B c y (evalPart o env) x
noncomputable abbrev M4 (A:Around) (B:Heap) (c:Cfg) (sc:Sc) (e:Expr) (it:Itk) (src:List Ex) :Prop:= ∀(env:Env) (y:Lay),EnvOk A sc env y→SI A B c y (eval e env) it src
theorem sound_all (R:Rn A B mg mb tb c n) :(∀sc e x,CE tb sc e x→M1 A B c sc e x)∧(∀sc es xs,CEs tb sc es xs→M2 A B tb c sc es xs)∧ ∀sc e it src,IT tb sc e it src→M4 A B c sc e it src:=by
  have both:∀ {sc:Sc} {e:Expr} {x:Ex},(∀env y,EnvOk A sc env y→SE A B c y (eval e env) x)→(∀env,isTrue e env (eval e env)=(do let v ← eval e env; standAt e.pos; holding [v] (truthy v)))→M1 A B c sc e x:=
    fun H he env y en=>⟨H env y en,.of (H env y en) (he env)⟩
  have p2:∀ {sc:Sc} {es:List Expr} {xs:List Ex} {env:Env} {y:Lay},F2 (fun e x=>CE tb sc e x∧SE A B c y (eval e env) x∧ST A B c y (isTrue e env (eval e env)) x) es xs→F2 (fun e x=>CE tb sc e x∧SE A B c y (eval e env) x) es xs:=fun F=>F.imp fun J U h=>⟨h.1,h.2.1⟩
  have pe:∀ {sc:Sc} {es:List Expr} {xs:List Ex} {env:Env} {y:Lay},F2 (fun e x=>CE tb sc e x∧SE A B c y (eval e env) x∧ST A B c y (isTrue e env (eval e env)) x) es xs→F2 (fun e x=>SE A B c y (eval e env) x) es xs:=fun F=>F.imp fun J U h=>h.2.1
  have pt:∀ {sc:Sc} {es:List Expr} {xs:List Ex} {env:Env} {y:Lay},F2 (fun e x=>CE tb sc e x∧SE A B c y (eval e env) x∧ST A B c y (isTrue e env (eval e env)) x) es xs→F2 (fun e x=>ST A B c y (isTrue e env (eval e env)) x) es xs:=fun F=>F.imp fun J U h=>h.2.2
  have c_lit:∀ {sc:Sc} {k:Const} {kk:Nat} {pos:Pos} {d:D} (a:ConstIs k d),M1 A B c sc (.Constant k kk pos) (.lit d):=fun a=>both (fun env y en=>se_lit a) fun J=>rfl
  have c_var:∀ {sc:Sc} {x:Str} {pos:Pos} {i:Nat} (a:sc.isV x i),M1 A B c sc (.Name x pos) (.var i):=fun a=>both (fun env y en=>se_var en a) fun J=>rfl
  have c_pl:∀ {sc:Sc} {x:Str} {pos:Pos} {i:Nat} (a:sc.isV x i),M1 A B c sc (.Name x pos) (.pl (.var i)):=fun a=>both (fun env y en=>se_pl en a) fun J=>rfl
  have c_gl:∀ {sc:Sc} {x:Str} {pos:Pos} {k:Nat} (a:sc.isG x) (b:tb.gl[k]? = some x),M1 A B c sc (.Name x pos) (.gl k):=fun a b=>both (fun env y en=>se_gl R en a b) fun J=>rfl
  have c_tup:∀ {sc:Sc} {es:List Expr} {k:Nat} {pos:Pos} {xs:List Ex} (a:CEs tb sc es xs) (b:xs.length≤1000),M2 A B tb c sc es xs→M1 A B c sc (.Tuple es k pos) (.tup xs):=fun a b ih=>both (fun env y en=>se_tup (p2 (ih env y en)) b) fun J=>rfl
  have c_list:∀ {sc:Sc} {es:List Expr} {pos:Pos} {xs:List Ex} (a:CEs tb sc es xs) (b:xs.length≤1000),M2 A B tb c sc es xs→M1 A B c sc (.List es pos) (.list xs):=fun a b ih=>both (fun env y en=>se_list (p2 (ih env y en)) b) fun J=>rfl
  have c_op2:∀ {sc:Sc} {a b:Expr} {pos:Pos} {o:Op2} {x z:Ex} (h1:CE tb sc a x) (h2:CE tb sc b z) (h3:Apart x (bvE z)),M1 A B c sc a x→M1 A B c sc b z→M1 A B c sc (.BinOp a (opOf o) b pos) (.op2 o x z):=
    fun h1 h2 h3 i1 i2=>both (fun env y en=>se_op2 (i1 env y en).1 (i2 env y en).1 h3) fun J=>rfl
  have c_neg:∀ {sc:Sc} {a:Expr} {pos:Pos} {x:Ex} (h1:CE tb sc a x),M1 A B c sc a x→M1 A B c sc (.UnaryOp .USub a pos) (.neg x):=fun h1 i1=>both (fun env y en=>se_neg (i1 env y en).1) fun J=>rfl
  have c_not:∀ {sc:Sc} {a:Expr} {pos:Pos} {x:Ex} (h1:CE tb sc a x),M1 A B c sc a x→M1 A B c sc (.UnaryOp .Not a pos) (.not x):=fun h1 i1 env y en=>⟨se_not (i1 env y en).1,st_not (i1 env y en).2⟩
  have c_cmp:∀ {sc:Sc} {a b:Expr} {pos:Pos} {o:Cm} {x z:Ex} (h1:CE tb sc a x) (h2:CE tb sc b z) (h3:Apart x (bvE z)),M1 A B c sc a x→M1 A B c sc b z→M1 A B c sc (.Compare a [cmOp o] [b] pos) (.cmp o x z):=
    fun h1 h2 h3 i1 i2 env y en=>⟨se_cmp R (i1 env y en).1 (i2 env y en).1 h3 (h2.noSet _),st_cmp R (i1 env y en).1 (i2 env y en).1 h3 (h2.noSet _)⟩
  have c_and:∀ {sc:Sc} {es:List Expr} {pos:Pos} {xs:List Ex} (a:CEs tb sc es xs),M2 A B tb c sc es xs→M1 A B c sc (.BoolOp .And es pos) (.and xs):=fun a ih env y en=>⟨se_and (pe (ih env y en)),st_and (pt (ih env y en))⟩
  have c_or:∀ {sc:Sc} {es:List Expr} {pos:Pos} {xs:List Ex} (a:CEs tb sc es xs),M2 A B tb c sc es xs→M1 A B c sc (.BoolOp .Or es pos) (.or xs):=fun a ih env y en=>⟨se_or (pe (ih env y en)),st_or (pt (ih env y en))⟩
  have c_idx:∀ {sc:Sc} {a i:Expr} {pos:Pos} {x z:Ex} (h1:CE tb sc a x) (h2:CE tb sc i z) (h3:Apart x (bvE z)),M1 A B c sc a x→M1 A B c sc i z→M1 A B c sc (.Subscript a i pos) (.idx x z):=
    fun h1 h2 h3 i1 i2=>both (fun env y en=>se_idx (i1 env y en).1 (i2 env y en).1 h3 h2.isPlain) fun J=>rfl
  have c_slc:∀ {sc:Sc} {a:Expr} {lo hi:Option Expr} {p pos:Pos} {x l u:Ex} (h1:CE tb sc a x) (h2:CEo tb sc lo l) (h3:CEo tb sc hi u) (h4:Apart x (bvE l++bvE u)),M1 A B c sc a x→M3 A B c sc lo l→M3 A B c sc hi u→M1 A B c sc (.Subscript a (.Slice lo hi none p) pos) (.slc x l u):=
    fun h1 h2 h3 h4 i1 i2 i3=>both (fun env y en=>se_slc (i1 env y en).1 (i2 env y en) (i3 env y en) h4) fun J=>rfl
  have c_call:∀ {sc:Sc} {f:Nat} {d:DefRec} {p pos:Pos} {args:List Expr} {xs:List Ex} (h1:tb.fn[f]? = some d) (h2:sc.isG d.name) (h3:CEs tb sc args xs) (h4:args.length≤29),M2 A B tb c sc args xs→M1 A B c sc (.Call (.Name d.name p) args [] pos) (.call f xs):=
    fun h1 h2 h3 h4 ih=>both (fun env y en=>se_call R en h1 h2 (p2 (ih env y en))) fun J=>rfl
  have c_bi1:∀ {sc:Sc} {b:Bi} {p pos:Pos} {a:Expr} {x:Ex} (h1:b.one=true) (h2:sc.isG (biName b)) (h3:CE tb sc a x),M1 A B c sc a x→M1 A B c sc (.Call (.Name (biName b) p) [a] [] pos) (.bi b [x]):=
    fun h1 h2 h3 i1=>both (fun env y en=>se_bi1 R en h1 h2 h3 (i1 env y en).1) fun J=>rfl
  have c_isi:∀ {sc:Sc} {t:Ty} {p p' pos:Pos} {a:Expr} {x:Ex} (h1:sc.isG "isinstance") (h2:sc.isG (tyName t)) (h3:CE tb sc a x),M1 A B c sc a x→M1 A B c sc (.Call (.Name "isinstance" p) [a,.Name (tyName t) p'] [] pos) (.bi (.isi t) [x]):=
    fun h1 h2 h3 i1=>both (fun env y en=>se_isi R en h1 h2 h3 (i1 env y en).1) fun J=>rfl
  have c_comp:∀ {sc:Sc} {elt iter g:Expr} {vs:List Str} {t:Tgt} {pos:Pos} {ifs:List Expr} {scope:Scope} {i:Nat} {it:Itk} {src conds:List Ex} {x:Ex} (h0:CG i g vs t) (hz:it = .zip→t.isTup=true) (h1:IT tb sc iter it src) (h2:CompOk scope sc vs) (h3:sc.hi≤i) (h4:CE tb (compSc scope sc vs i) elt x) (h5:CEs tb (compSc scope sc vs i) ifs conds) (h6:∀j∈tgtVars t,j∉bvE x∧j∉bvEs conds),
      M4 A B c sc iter it src→M1 A B c (compSc scope sc vs i) elt x→M2 A B tb c (compSc scope sc vs i) ifs conds→M1 A B c sc (.ListComp elt [⟨g,iter,ifs,0⟩] scope pos) (.comp x t it src conds):=
    fun h0 hz h1 h2 h3 h4 h5 h6 i1 i2 i3=>both (fun env y en=>se_comp h0 hz R.hh en h2 h3 (i1 env y en) (h1.noFold env) (fun env y en=>(i2 env y en).1) fun env y en=>pt (i3 env y en)) fun J=>rfl
  have c_isx:∀ {sc:Sc} {x C:Str} {p p1 p2 pos:Pos} {i:Nat} {yes no:List Str} (h1:sc.isG "isinstance") (h2:sc.isV x i) (h3:sc.isG C) (h4:tb.sub.lookup C = some (yes,no)),M1 A B c sc (.Call (.Name "isinstance" p) [.Name x p1,.Name C p2] [] pos) (.isx i yes no):=
    fun h1 h2 h3 h4=>both (fun env y en=>se_isx R en h1 h2 h3 h4) fun J=>rfl
  have c_isxt:∀ {sc:Sc} {x:Str} {cs:List Str} {es:List Expr} {p p1 p2 pos:Pos} {k i:Nat} {yes no:List Str} (h1:sc.isG "isinstance") (h2:sc.isV x i) (h3:NS sc es cs) (h4:cs.length≤1000) (h5:tb.sbt.lookup cs = some (yes,no)),M1 A B c sc (.Call (.Name "isinstance" p) [.Name x p1,.Tuple es k p2] [] pos) (.isx i yes no):=
    fun h1 h2 h3 h4 h5=>both (fun env y en=>se_isxt R en h1 h2 h3 h4 h5) fun J=>rfl
  have c_bx:∀ {sc:Sc} {e:Expr} {b:Bi} {es:List Expr} {xs:List Ex} (h1:BX sc e b es) (h0:bxB b xs=true) (h2:CEs tb sc es xs),M2 A B tb c sc es xs→M1 A B c sc e (.bi b xs):=
    fun h1 h0 h2 ih=>both (fun env y en=>se_bx R en h1 h0 (p2 (ih env y en))) fun J=>by cases h1 <;> rfl
  have c_nil:∀ {sc:Sc},M2 A B tb c sc [] []:=fun env y en=>trivial
  have c_cons:∀ {sc:Sc} {e:Expr} {es:List Expr} {x:Ex} {xs:List Ex} (h1:CE tb sc e x) (h2:CEs tb sc es xs) (h3:Apart x (bvEs xs)),M1 A B c sc e x→M2 A B tb c sc es xs→M2 A B tb c sc (e::es) (x::xs):=
    fun h1 h2 h3 i1 i2 env y en=>⟨⟨h1,i1 env y en⟩,h3,i2 env y en⟩
  have c_none:∀ {sc:Sc},M3 A B c sc none (.lit .none):=fun {sc} env y en own Z s fr out h I=>by
    cases h
    exact wpAny_evalPart_none (.val I .refl .none)
  have c_some:∀ {sc:Sc} {e:Expr} {x:Ex} (h1:CE tb sc e x),M1 A B c sc e x→M3 A B c sc (some e) x:=fun h1 i1 env y en own Z s fr out h I=>wpAny_evalPart_some ((i1 env y en).1 own Z s fr out h I)
  have c_seq:∀ {sc:Sc} {e:Expr} {x:Ex} (h1:CE tb sc e x),M1 A B c sc e x→M4 A B c sc e .seq [x]:=fun h1 i1 env y en=>si_seq R (i1 env y en).1
  have c_range:∀ {sc:Sc} {p pos:Pos} {e:Expr} {x:Ex} (h0:sc.isG "range") (h1:CE tb sc e x),M1 A B c sc e x→M4 A B c sc (.Call (.Name "range" p) [e] [] pos) .range [x]:=fun h0 h1 i1 env y en=>si_range R en h0 h1 (i1 env y en).1
  have c_zip:∀ {sc:Sc} {p pos:Pos} {e1 e2:Expr} {x1 x2:Ex} (h0:sc.isG "zip") (h1:CEs tb sc [e1,e2] [x1,x2]),M2 A B tb c sc [e1,e2] [x1,x2]→M4 A B c sc (.Call (.Name "zip" p) [e1,e2] [] pos) .zip [x1,x2]:=fun h0 h1 ih env y en=>si_zip R en h0 (p2 (ih env y en))
  exact ⟨fun sc e x h=>@CE.rec tb (fun sc e x J=>M1 A B c sc e x) (fun sc es xs J=>M2 A B tb c sc es xs) (fun sc o x J=>M3 A B c sc o x) (fun sc e it src J=>M4 A B c sc e it src) c_lit c_var c_pl c_gl c_tup c_list c_op2 c_neg c_not c_cmp c_and c_or c_idx c_slc c_call c_bi1 c_isi c_comp c_isx c_isxt c_bx c_nil c_cons c_none c_some c_seq c_range c_zip sc e x h,fun sc es xs h=>@CEs.rec tb (fun sc e x J=>M1 A B c sc e x) (fun sc es xs J=>M2 A B tb c sc es xs) (fun sc o x J=>M3 A B c sc o x) (fun sc e it src J=>M4 A B c sc e it src) c_lit c_var c_pl c_gl c_tup c_list c_op2 c_neg c_not c_cmp c_and c_or c_idx c_slc c_call c_bi1 c_isi c_comp c_isx c_isxt c_bx c_nil c_cons c_none c_some c_seq c_range c_zip sc es xs h,fun sc e it src h=>@IT.rec tb (fun sc e x J=>M1 A B c sc e x) (fun sc es xs J=>M2 A B tb c sc es xs) (fun sc o x J=>M3 A B c sc o x) (fun sc e it src J=>M4 A B c sc e it src) c_lit c_var c_pl c_gl c_tup c_list c_op2 c_neg c_not c_cmp c_and c_or c_idx c_slc c_call c_bi1 c_isi c_comp c_isx c_isxt c_bx c_nil c_cons c_none c_some c_seq c_range c_zip sc e it src h⟩
end
end Mv
end
section
namespace Mv
open PySem PyProof.Rows
inductive TGs (sc:Sc) :List Expr→List Nat→Prop
  | nil:TGs sc [] []
  | cons {x:Str} {p:Pos} {i:Nat} {es:List Expr} {is:List Nat} :sc.isV x i→TGs sc es is→TGs sc (.Name x p::es) (i::is)
inductive TG (sc:Sc) :Expr→Tgt→Prop
  | one {x:Str} {p:Pos} {i:Nat} :sc.isV x i→TG sc (.Name x p) (.one i)
  | tup {es:List Expr} {is:List Nat} {k:Nat} {p:Pos} :TGs sc es is→TG sc (.Tuple es k p) (.tup is)
mutual
inductive CS (tb:Tb) (sc:Sc) :Stmt→St→Prop
  | asg {x:Str} {p pos:Pos} {value:Expr} {i:Nat} {e:Ex} :sc.isV x i→CE tb sc value e→CS tb sc (.Assign [.Name x p] value pos) (.asg (.one i) e)
  | setI {x:Str} {p p' pos:Pos} {value idx:Expr} {i:Nat} {e k:Ex} :sc.isV x i→CE tb sc value e→CE tb sc idx k→CS tb sc (.Assign [.Subscript (.Name x p) idx p'] value pos) (.setI (.var i) k e)
  | app {x:Str} {p apos pos pos':Pos} {e:Expr} {i:Nat} {z:Ex} :sc.isV x i→CE tb sc e z→(apos.endLine == pos.line) = true→CS tb sc (.Expr (.Call (.Attribute (.Name x p) "append" apos) [e] [] pos) pos') (.app (.var i) z)
  | exp {e:Expr} {pos:Pos} {z:Ex} :CE tb sc e z→noComp e=true→CS tb sc (.Expr e pos) (.exp z)
  | iff {t:Expr} {a b:List Stmt} {pos:Pos} {z:Ex} {xa xb:List St} :CE tb sc t z→CSs tb sc a xa→CSs tb sc b xb→CS tb sc (.If t a b pos) (.iff z xa xb)
  | ret {e:Expr} {pos:Pos} {z:Ex} :CE tb sc e z→CS tb sc (.Return (some e) pos) (.ret z)
  | retN {pos:Pos} :CS tb sc (.Return none pos) (.ret (.lit .none))
  | for1 {g:Expr} {pos:Pos} {iter:Expr} {body:List Stmt} {t:Tgt} {it:Itk} {src:List Ex} {xb:List St} {tmp:List Nat} :TG sc g t→(it = .zip→t.isTup=true)→IT tb sc iter it src→CSs tb sc body xb→CS tb sc (.For g iter body [] pos) (.for_ t it src xb tmp)
  | raise {k msg:Str} {np cpos pos ap:Pos} {kk:Nat} :sc.isG k→k∈tb.cl→CS tb sc (.Raise (some (.Call (.Name k np) [.Constant (.str msg) kk ap] [] cpos)) none pos) (.raise k)
  | try1 {x cn:Str} {p hp pos:Pos} {i:Nat} {yes no:List Str} {body hs:List Stmt} {h0:Stmt} {xb xh:List St} :sc.isV x i→sc.names.lookup x=some .local→sc.isG cn→tb.sub.lookup cn=some (yes,no)→CSs tb sc body xb→CSs tb sc (h0::hs) xh→
      CS tb sc (.Try body [.ExceptHandler (some (.Name cn p)) (some x) (h0::hs) hp] [] [] pos) (.try_ xb yes i xh)
  | pass {pos:Pos} :CS tb sc (.Pass pos) (.exp (.lit .none))
  | asgT {es:List Expr} {is:List Nat} {k:Nat} {p pos:Pos} {value:Expr} {e:Ex} :TGs sc es is→CE tb sc value e→noComp value=true→noTup value=true→CS tb sc (.Assign [.Tuple es k p] value pos) (.asg (.tup is) e)
  | no {s:Stmt} :CS tb sc s .no
inductive CSs (tb:Tb) (sc:Sc) :List Stmt→List St→Prop
  | nil:CSs tb sc [] []
  | cons {s:Stmt} {ss:List Stmt} {z:St} {zs:List St} :CS tb sc s z→CSs tb sc ss zs→CSs tb sc (s::ss) (z::zs)
end
variable [Hp]
theorem CG.le {i j:Nat} {g:Expr} {vs:List Str} {t:Tgt} (h:CG i g vs t) (hj:j∈tgtVars t) :i≤j:=by
  cases h with
  | one=>exact Nat.le_of_eq (List.mem_singleton.mp hj).symm
  | two=>
    rcases List.mem_cons.mp hj with q | q
    · exact Nat.le_of_eq q.symm
    · rw [List.mem_singleton.mp q]; exact Nat.le_succ i
theorem bv_hi {tb:Tb} :(∀sc e x,CE tb sc e x→ ∀j∈bvE x,sc.hi≤j)∧ ∀sc e it src,IT tb sc e it src→ ∀j∈bvEs src,sc.hi≤j:=by
  have nil:∀ {sc:Sc} {j:Nat},j∈([] :List Nat)→sc.hi≤j:=fun h=>by cases h
  have app:∀ {sc:Sc} {a b:List Nat},(∀j∈a,sc.hi≤j)→(∀j∈b,sc.hi≤j)→ ∀j∈a++b,sc.hi≤j:=fun h1 h2 j hj=>(List.mem_append.mp hj).elim (h1 j) (h2 j)
  have comp:∀ {sc:Sc} {elt iter g:Expr} {vs:List Str} {t:Tgt} {ifs:List Expr} {scope:Scope} {i:Nat} {it:Itk} {src conds:List Ex} {x:Ex} (h0:CG i g vs t) (hz:it = .zip→t.isTup=true) (h1:IT tb sc iter it src) (h2:CompOk scope sc vs) (h3:sc.hi≤i) (h4:CE tb (compSc scope sc vs i) elt x) (h5:CEs tb (compSc scope sc vs i) ifs conds) (h6:∀j∈tgtVars t,j∉bvE x∧j∉bvEs conds),
      (∀j∈bvEs src,sc.hi≤j)→(∀j∈bvE x,(compSc scope sc vs i).hi≤j)→(∀j∈bvEs conds,(compSc scope sc vs i).hi≤j)→ ∀j∈bvE (.comp x t it src conds),sc.hi≤j:=fun {sc _ _ _ vs _ _ scope i _ _ _ _} h0 hz h1 h2 h3 h4 h5 h6 i1 i2 i3=>by
    have up:∀j,(compSc scope sc vs i).hi≤j→sc.hi≤j:=fun j h=>Nat.le_trans h3 (Nat.le_trans (Nat.le_add_right i _) h)
    exact app (app (app (fun j hj=>Nat.le_trans h3 (h0.le hj)) fun j hj=>up j (i2 j hj)) i1) fun j hj=>up j (i3 j hj)
  refine ⟨fun sc e x h=>@CE.rec tb (fun sc J x U=> ∀j∈bvE x,sc.hi≤j) (fun sc J xs U=> ∀j∈bvEs xs,sc.hi≤j) (fun sc J x U=> ∀j∈bvE x,sc.hi≤j) (fun sc J U src j2_=> ∀j∈bvEs src,sc.hi≤j) (fun J j hj=>nil hj) (fun J j hj=>nil hj) (fun J j hj=>nil hj) (fun J U j hj=>nil hj) (fun J U ih=>ih) (fun J U ih=>ih) (fun J U j2_ a b=>app a b) (fun J a=>a) (fun J a=>a) (fun J U j2_ a b=>app a b) (fun J a=>a) (fun J a=>a)
    (fun J U j2_ a b=>app a b) (fun J U j2_ j3_ a b e=>app (app a b) e) (fun J U j2_ j3_ a=>a) (fun J U j2_ a=>app a fun J h=>nil h) (fun J U j2_ a=>app a fun J h=>nil h) comp (fun J U j2_ j3_ j hj=>nil hj) (fun J U j2_ j3_ j4_ j hj=>nil hj) (fun J U j2_ a=>a) (fun j hj=>nil hj) (fun J U j2_ a b=>app a b) (fun j hj=>nil hj) (fun J a=>a) (fun J a=>app a fun J h=>nil h) (fun J U a=>app a fun J h=>nil h) (fun J U a=>a) sc e x h,fun sc e it src h=>@IT.rec tb (fun sc J x U=> ∀j∈bvE x,sc.hi≤j) (fun sc J xs U=> ∀j∈bvEs xs,sc.hi≤j) (fun sc J x U=> ∀j∈bvE x,sc.hi≤j) (fun sc J U src j2_=> ∀j∈bvEs src,sc.hi≤j) (fun J j hj=>nil hj) (fun J j hj=>nil hj) (fun J j hj=>nil hj) (fun J U j hj=>nil hj) (fun J U ih=>ih) (fun J U ih=>ih) (fun J U j2_ a b=>app a b) (fun J a=>a) (fun J a=>a) (fun J U j2_ a b=>app a b) (fun J a=>a) (fun J a=>a)
    (fun J U j2_ a b=>app a b) (fun J U j2_ j3_ a b e=>app (app a b) e) (fun J U j2_ j3_ a=>a) (fun J U j2_ a=>app a fun J h=>nil h) (fun J U j2_ a=>app a fun J h=>nil h) comp (fun J U j2_ j3_ j hj=>nil hj) (fun J U j2_ j3_ j4_ j hj=>nil hj) (fun J U j2_ a=>a) (fun j hj=>nil hj) (fun J U j2_ a b=>app a b) (fun j hj=>nil hj) (fun J a=>a) (fun J a=>app a fun J h=>nil h) (fun J U a=>app a fun J h=>nil h) (fun J U a=>a) sc e it src h⟩
section
variable {A:Around} {B:Heap} {mg mb:Str→Option Value} {tb:Tb} {c:Cfg} {n:Nat} {env:Env} {sc:Sc} {y:Lay}
  {bv bv':List Nat} {own own₁ own₀ own':Addr→Option Nat} {Z Z₁ Z₀ Z':Addr→Prop} {s s₁ s₀ s':Shared} {fr fr₁:Fm}
theorem Step.strong (S:Step y bv own Z s own' Z' s') (en:EnvOk A sc env y) (h:∀j∈bv,sc.hi≤j) :Step y [] own Z s own' Z' s':=
  {S with bind:=fun i l v J hl r=>S.bind i l v (fun q=>by have:=h i q; have:=en.hi i l hl; exact (linF [sc.3,i] [] [(1,.nle (.v 0) (.v 1)),(1,.nle (.a (.v 1) (.c 1)) (.v 0))] rfl ‹sc.hi≤i› this)) hl r}
theorem PostX.strong {β:Type} {out:Except Str β×Fm} {v:Value} {bvx:List Nat} (en:EnvOk A sc env y) (h:∀j∈bvx,sc.hi≤j) (S:Step y bv own₀ Z₀ s₀ own Z s) (x:PostX B y bvx own Z s out v s') :PostX B y bv own₀ Z₀ s₀ out v s':=by
  obtain ⟨nm,a,own',Z',q,e1,I,S',X⟩:=x
  exact ⟨nm,a,own',Z',q,e1,I,S.trans ((S'.strong en h).sub fun J h=>by cases h),X.mono fun b J U h=>⟨S.old b h.1,h.2⟩⟩
noncomputable def FlowIs (y:Lay) (s₀:Shared) (own':Addr→Option Nat) (Z':Addr→Prop) (s':Shared) (f:Flow) :Ctl→Prop
  | .next=>f = .next
  | .ret r=> ∃v,f = .ret v∧RvAt y own' Z' s₀.heap s'.heap r v∧ ∃d,rvV r=some d
inductive PostS (B:Heap) (y:Lay) (bv:List Nat) (s₀:Shared) (own:Addr→Option Nat) (Z:Addr→Prop) (s:Shared) (out:Except Str Ctl×Fm) (f:Flow) (s':Shared) :Prop
  | mk (k:Ctl) (own':Addr→Option Nat) (Z':Addr→Prop) :out.1 = .ok k→Inv B y own' Z' s'.heap out.2→Step y bv own Z s own' Z' s'→FlowIs y s₀ own' Z' s' f k→PostS B y bv s₀ own Z s out f s'
noncomputable def SS (A:Around) (B:Heap) (c:Cfg) (y:Lay) (bv:List Nat) (own₀:Addr→Option Nat) (Z₀:Addr→Prop) (s₀:Shared) (m:Sem Flow) (z:List St) :Prop:=
  ∀(own:Addr→Option Nat) (Z:Addr→Prop) (s:Shared) (fr:Fm) (out:Except Str Ctl×Fm),exSs c z fr=some out→Inv B y own Z s.heap fr→Step y bv own₀ Z₀ s₀ own Z s→wpAny (model prog w) A m (PostS B y bv s₀ own Z s out) (PostX B y bv own Z s out) s
noncomputable def SS1 (A:Around) (B:Heap) (c:Cfg) (y:Lay) (bv:List Nat) (own₀:Addr→Option Nat) (Z₀:Addr→Prop) (s₀:Shared) (m:Sem Flow) (z:St) :Prop:=
  ∀(own:Addr→Option Nat) (Z:Addr→Prop) (s:Shared) (fr:Fm) (out:Except Str Ctl×Fm),exS c z fr=some out→Inv B y own Z s.heap fr→Step y bv own₀ Z₀ s₀ own Z s→wpAny (model prog w) A m (PostS B y bv s₀ own Z s out) (PostX B y bv own Z s out) s
theorem seqS {β:Type} {e:Expr} {x:Ex} {k:Rv→Fm→Out β} {out:Except Str β×Fm} {Q:Value→Shared→Prop} (en:EnvOk A sc env y) (ce:CE tb sc e x) (H:SE A B c y (eval e env) x) (hk:bndK (ev c x fr) k=some out) (I:Inv B y own Z s.heap fr) (S:Step y bv own₀ Z₀ s₀ own Z s)
    (K:∀r fr₂ own₂ Z₂ s₂ v,ev c x fr=some (.ok r,fr₂)→k r fr₂=some out→Inv B y own₂ Z₂ s₂.heap fr₂→Step y [] own Z s own₂ Z₂ s₂→Step y bv own₀ Z₀ s₀ own₂ Z₂ s₂→RvAt y own₂ Z₂ s.heap s₂.heap r v→Q v s₂) :
    wpAny (model prog w) A (eval e env) Q (PostX B y bv own₀ Z₀ s₀ out) s:=by
  refine wpAny_mono (seqE (bv:=bvE x) hk .refl (fun J h=>h) (fun o e=>H own Z s fr o e I) fun r fr₂ own₂ Z₂ s₂ v e₁ h I₂ S₁ J R=>?_) (fun v s' q=>q) fun J s' p=>p.strong en (bv_hi.1 sc e x ce) S
  have S':=S₁.strong en (bv_hi.1 sc e x ce)
  exact K r fr₂ own₂ Z₂ s₂ v e₁ h I₂ S' (S.trans (S'.sub fun J h=>by cases h)) R
theorem seqST {β:Type} {e:Expr} {x:Ex} {k:Rv→Fm→Out β} {out:Except Str β×Fm} {Q:Bool→Shared→Prop} (en:EnvOk A sc env y) (ce:CE tb sc e x) (H:ST A B c y (isTrue e env (eval e env)) x) (hk:bndK (ev c x fr) k=some out) (I:Inv B y own Z s.heap fr) (S:Step y bv own₀ Z₀ s₀ own Z s)
    (hd:∀r fr₂,k r fr₂=some out→ ∃d,rvD fr₂ r=some d)
    (K:∀r d fr₂ own₂ Z₂ s₂,k r fr₂=some out→rvD fr₂ r=some d→Inv B y own₂ Z₂ s₂.heap fr₂→Step y bv own₀ Z₀ s₀ own₂ Z₂ s₂→Q (tD d) s₂) :
    wpAny (model prog w) A (isTrue e env (eval e env)) Q (PostX B y bv own₀ Z₀ s₀ out) s:=by
  refine wpAny_mono (seqT (bv:=bvE x) hk .refl (fun J h=>h) hd (fun o e hd=>H own Z s fr o e hd I) fun r d fr₂ own₂ Z₂ s₂ h hd I₂ S₁ J=>?_) (fun v s' q=>q) fun J s' p=>p.strong en (bv_hi.1 sc e x ce) S
  exact K r d fr₂ own₂ Z₂ s₂ h hd I₂ (S.trans ((S₁.strong en (bv_hi.1 sc e x ce)).sub fun J h=>by cases h))
theorem Step.addO {a:Addr} {i:Nat} (S:Step y bv own Z s own' Z' s') (e:s.heap.get? a=none) :Step y bv own Z s (addO own' a i) Z' s':=
  ⟨S.sh,S.ext,S.zm,S.zn,fun b j q=>by
      by_cases h:b=a
      · exact .inr (h▸e)
      · rw [addO_ne h] at q; exact S.on b j q,S.bind⟩
set_option tactic.hygienic true in
theorem store_asg {x:Str} {i:Nat} {r:Rv} {v:Value} {fr₂:Fm} {h₀:Heap} {Q:Unit→Shared→Prop} {E:Value→Shared→Prop} (en:EnvOk A sc env y) (hv:sc.vars.lookup x=some i) (hf:env.kindOf x≠some .free) (hl:∃l,y.loc i=some l) (hb:i∉c.pin→i∈bv)
    (he:asgT c.pin fr (.one i) r=some fr₂) (I:Inv B y own Z s.heap fr) (S:Step y bv own₀ Z₀ s₀ own Z s) (hh:∀a,h₀.get? a=none→s₀.heap.get? a=none) (R:RvAt y own Z h₀ s.heap r v)
    (K:∀own' Z' s',(∃h' tk,s'={s with heap:=h',toks:=tk})→(∀l,y.loc i=some l→ ∀a o,a≠l.addr→s.heap.get? a=some o→s'.heap.get? a=some o)→(∀a,own' a≠none→own a≠none∨v = .ref a)→(∀a,Z' a→Z a)→Inv B y own' Z' s'.heap fr₂→Step y bv own₀ Z₀ s₀ own' Z' s'→Q () s') :wpAny (model prog w) A (storeName env x v) Q E s:=by
  obtain ⟨l,hl⟩:=hl
  simp only [asgT] at he
  split at he
  · cases he
  · rename_i hp
    have hbi:i∈bv:=hb (by simpa using hp)
    have hsub:∀j∈ [i],j∈bv:=fun j hj=>by rw [List.mem_singleton] at hj; subst hj; exact hbi
    split at he
    · cases he
      exact store_put en hv hf hl I fun h' tk P=>K own Z _ ⟨_,_,rfl⟩ (fun l' hl'=>by rw [hl] at hl'; cases hl'; exact P.keep) (fun a h=>.inl h) (fun a z=>z) (P.fz I hl R) (S.trans ((P.step hl I).sub hsub))
    · cases he
      obtain ⟨a,rfl,n0,nw,nf,nz,W⟩:=R
      refine store_put en hv hf hl I fun h' tk P=>K (addO own a i) Z _ ⟨_,_,rfl⟩ (fun l' hl'=>by rw [hl] at hl'; cases hl'; exact P.keep) (fun b h=>?_) (fun a z=>z) (P.owned I hl nw nf nz W) ((S.trans ((P.step hl I).sub hsub)).addO (hh a n0))
      by_cases q:b=a
      · subst q; exact .inr rfl
      · rw [addO_ne q] at h; exact .inl h
    · cases he
structure FnOk (A:Around) (sc:Sc) (env:Env) (y:Lay) (c:Cfg) (bv:List Nat) (own₀:Addr→Option Nat) :Prop where
  en:EnvOk A sc env y
  nf:∀x i,sc.vars.lookup x=some i→env.kindOf x≠some .free
  bv:∀i,i∉c.pin→i<sc.hi→i∈bv
  pin:∀a i,own₀ a=some i→i∈c.pin
  ni:interactive env=false
  kd:∀x,env.kindOf x=sc.names.lookup x
  top:∃outer,A.frames=some (env::outer)
theorem FnOk.loc {x:Str} {i:Nat} (ok:FnOk A sc env y c bv own₀) (h:sc.vars.lookup x=some i) :∃l,y.loc i=some l:=by
  rcases ok.en.var x i h with ⟨_,e⟩ | ⟨_,c,_,e⟩ <;> exact ⟨_,e⟩
theorem FnOk.bvi {x:Str} {i:Nat} (ok:FnOk A sc env y c bv own₀) (h:sc.vars.lookup x=some i) :i∉c.pin→i∈bv:=fun hp=>by
  obtain ⟨l,hl⟩:=ok.loc h
  exact ok.bv i hp (ok.en.hi i l hl)
set_option tactic.hygienic true in
theorem ss_asg {x:Str} {i:Nat} {p pos:Pos} {value:Expr} {e:Ex} (R:Rn A B mg mb tb c n) (ok:FnOk A sc env y c bv own₀) (hx:sc.isV x i) (ce:CE tb sc value e) :
    SS1 A B c y bv own₀ Z₀ s₀ (exec (.Assign [.Name x p] value pos) env) (.asg (.one i) e):=by
  intro own Z s fr out h I S
  rw [exS_asg,show (c.hd&&(Tgt.one i).isTup)=false from Bool.and_false _,if_neg Bool.false_ne_true] at h
  have plain:swapsWith value (some (.Name x p)) pos.line env=pure false→wpAny (model prog w) A (exec (.Assign [.Name x p] value pos) env) (PostS B y bv s₀ own Z s out) (PostX B y bv own Z s out) s:=fun hs=>by
    refine wpAny_Assign_Name (seqS ok.en ce ((sound_all R).1 sc _ _ ce env y ok.en).1 h I .refl fun r fr₂ own₂ Z₂ s₂ v e₁ h I₂ S₁ S₂ R₂=>?_) hs
    split at h
    · rename_i fr₃ he
      cases h
      exact store_asg ok.en hx.1 (ok.nf x i hx.1) (ok.loc hx.1) (ok.bvi hx.1) he I₂ S₂ (fun J q=>q) R₂ fun own' Z' s' J U j2_ j3_ I' S'=>⟨.next,own',Z',rfl,I',S',rfl⟩
    · cases h
  by_cases hc:noComp value=true
  · exact plain (swaps_plain ce hc)
  · cases ce.ci with
    | lit | nm=>exact absurd rfl hc
    | other h _ _=>exact absurd h hc
    | @comp elt iter g vs t cpos ifs scope j it src conds z h0 hz h1 h2 h3 h4 h5 h6=>
      have hsw:swapsWith (.ListComp elt [⟨g,iter,ifs,0⟩] scope cpos) (some (.Name x p)) pos.line env=pure (env.blockKind == .function&&env.kindOf x==some .local&&p.line==cpos.line
        && !(scope.names.any fun (n,k)=>n==x&&(k == .local||k == .cell))):=rfl
      generalize hb:(env.blockKind == .function&&env.kindOf x==some .local&&p.line==cpos.line && !(scope.names.any fun (n,k)=>n==x&&(k == .local||k == .cell)))=b at hsw
      cases b with
      | false=>exact plain hsw
      | true=>
        rw [exec_Assign_Name_used _ _ _ _ hsw]
        refine wpAny_bind (wpAny_standAt (wpAny_bind ?_))
        show wpAny _ A (do let _ ← comprehension (.ListComp elt [⟨g,iter,ifs,0⟩] scope cpos) scope env _ (newList []) false (eval iter env) (some (assign (.Name x p) env))) _ _ s
        have all:=sound_all R
        rcases bnd_some h with ⟨e,f,hm,rfl⟩ | ⟨r,f,hm,h⟩
        · refine wpAny_bind (comp_any (use:=some (assign (.Name x p) env)) h0 hz R.hh ok.en h2 h3 (all.2.2 _ _ _ _ h1 env y ok.en) (h1.noFold env) (fun env y en=>(all.1 _ _ _ h4 env y en).1) (fun env y en=>(all.2.1 _ _ _ h5 env y en).imp fun J U q=>q.2.2) hm I (fun J s' p=>(p.strong ok.en (bv_hi.1 sc _ _ (CE.comp (pos:=cpos) h0 hz h1 h2 h3 h4 h5 h6)) .refl).up (fun J h=>h) .refl) fun Da C s' own' Z' ds fr' m ho I' S' R' LC hm hDC=>?_)
          cases ho
        · refine wpAny_bind (comp_any (use:=some (assign (.Name x p) env)) h0 hz R.hh ok.en h2 h3 (all.2.2 _ _ _ _ h1 env y ok.en) (h1.noFold env) (fun env y en=>(all.1 _ _ _ h4 env y en).1) (fun env y en=>(all.2.1 _ _ _ h5 env y en).imp fun J U q=>q.2.2) hm I (fun e s' p=>p.elim) fun Da C s' own' Z' ds fr' m ho I' S' R' LC hm' hDC=>?_)
          cases ho
          split at h
          · rename_i fr₃ he
            cases h
            have ce:CE tb sc (.ListComp elt [⟨g,iter,ifs,0⟩] scope cpos) (.comp z t it src conds):=.comp h0 hz h1 h2 h3 h4 h5 h6
            have S'':=S'.strong ok.en (bv_hi.1 sc _ _ ce)
            have S₃:Step y bv own Z s own' Z' s':=S''.sub fun J h=>by cases h
            refine wpAny_assign_Name (store_asg ok.en hx.1 (ok.nf x i hx.1) (ok.loc hx.1) (ok.bvi hx.1) he I' S₃ (fun J q=>q) R' fun own₄ Z₄ s₄ hsh hkp hown hZ I₄ S₄=>?_)
            obtain ⟨l,hl⟩:=ok.loc hx.1
            have hCl:C≠l.addr:=fun q=>LC.2.1 (.inr (.inr ⟨i,l,hl,q.symm⟩))
            have hC₄:s₄.heap.Ns C m:=hm'.at' fun o ho=>hkp l hl C o hCl ho
            have hXX:∀b,b=C→ ¬y.wr own₄ b∧ ¬y.F b∧ ¬Z₄ b:=fun b q=>by
              subst q
              refine ⟨fun q=>?_,LC.2.2.1,fun q=>LC.2.2.2.1 (hZ _ q)⟩
              rcases q with q | q
              · rcases hown _ q with q | q
                · exact LC.2.1 (.inl q)
                · cases q; exact hDC rfl
              · exact LC.2.1 (.inr q)
            refine ⟨m,hC₄,fun h' hs=>wpAny_pure (wpAny_pure ?_)⟩
            have kp:∀b o, ¬b=C→s₄.heap.get? b=some o→h'.get? b=some o:=fun b o q e=>hs.extBut b o q e
            exact ⟨.next,own₄,Z₄,rfl,I₄.other hXX kp,S₄.other (tk:=s₄.toks) (X:=fun b=>b=C) (fun b q=>⟨q▸LC.1,(hXX b q).1⟩) kp,rfl⟩
          · cases h
theorem names_asg {Q:Unit→Shared→Prop} {E:Value→Shared→Prop} (ok:FnOk A sc env y c bv own₀) :∀ {es:List Expr} {is:List Nat},TGs sc es is→ ∀ {vs:List Value} {ds:List D} {fr fr₂:Fm} {s:Shared} {own:Addr→Option Nat} {Z:Addr→Prop},RepAll s.heap Z vs ds→asgs c.pin fr is ds=some fr₂→Inv B y own Z s.heap fr→
    (∀s',(∃h' tk,s'={s with heap:=h',toks:=tk})→Inv B y own Z s'.heap fr₂→Step y bv own Z s own Z s'→Q () s')→wpAny (model prog w) A (assignInOrder ((assignEach es env).map (·.2)) vs) Q E s:=by
  intro es is t
  induction t with
  | nil=>
    intro vs ds fr fr₂ s own Z R h I K
    cases ds with
    | nil=>obtain rfl:=sos h; exact assignInOrder_nil (K s ⟨_,_,rfl⟩ I .refl)
    | cons d ds=>exact nos h
  | @cons _ _ i _ is hx t ih=>
    intro vs ds fr fr₂ s own Z R h I K
    cases R with
    | nil=>exact nos h
    | @cons v vs d ds r R=>
      have h:(if c.pin.contains i then none else asgs c.pin (fr.set i (.fz d)) is ds)=some fr₂:=h
      by_cases q:c.pin.contains i=true
      · rw [if_pos q] at h; exact nos h
      rw [if_neg q] at h
      obtain ⟨l,hl⟩:=ok.loc hx.1
      refine assignInOrder_cons (wpAny_assign_Name (store_put ok.en hx.1 (ok.nf _ i hx.1) hl I fun h' tk P=>?_))
      have S1:Step y bv own Z s own Z {s with heap:=h',toks:=tk}:=(P.step hl I).sub fun j hj=>by rw [List.mem_singleton.mp hj]; exact ok.bvi hx.1 fun z=>q (List.contains_iff_mem.mpr z)
      refine ih (S1.repAll I R) h (P.fz I hl r) fun s' sh I' S'=>K s' ?_ I' (S1.trans S')
      obtain ⟨h2,tk2,rfl⟩:=sh; exact ⟨_,_,rfl⟩
theorem TGs.len {es:List Expr} {is:List Nat} (t:TGs sc es is) :(assignEach es env).length=is.length∧(assignEach es env).findIdx? (·.1)=none:=by
  induction t with
  | nil=>exact ⟨rfl,rfl⟩
  | cons _ _ t=>
    refine ⟨congrArg (· + 1) t.1,?_⟩
    show ((false,_)::assignEach _ env).findIdx? (·.1)=none
    rw [List.findIdx?_cons]; simp [t.2]
theorem asgs_len {pin:List Nat} :∀ {is:List Nat} {ds:List D} {fr fr₂:Fm},asgs pin fr is ds=some fr₂→is.length=ds.length
  | [],[],_,_,_=>rfl
  | [],_::_,_,_,h=>nos h
  | _::_,[],_,_,h=>nos h
  | i::is,d::ds,fr,fr₂,h=>by
    have h:(if pin.contains i then none else asgs pin (fr.set i (.fz d)) is ds)=some fr₂:=h
    by_cases q:pin.contains i=true
    · rw [if_pos q] at h; exact nos h
    · rw [if_neg q] at h; exact congrArg (· + 1) (asgs_len h)
theorem tgt_asg {g:Expr} {t:Tgt} {v:Value} {d:D} {fr fr₂:Fm} {Q:Unit→Shared→Prop} {E:Value→Shared→Prop} (ok:FnOk A sc env y c bv own₀) (hh:A.handled=none) (tg:TG sc g t) (he:asgT c.pin fr t (.fz d)=some fr₂) (I:Inv B y own Z s.heap fr) (R:Rep s.heap Z v d)
    (K:∀s',(∃h' tk,s'={s with heap:=h',toks:=tk})→Inv B y own Z s'.heap fr₂→Step y bv own Z s own Z s'→Q () s') :wpAny (model prog w) A (assign g env v) Q E s:=by
  cases tg with
  | @one x p i hx=>
    have h:(if c.pin.contains i then none else some (fr.set i (.fz d)))=some fr₂:=he
    obtain ⟨q,rfl⟩:=ifn h
    obtain ⟨l,hl⟩:=ok.loc hx.1
    exact wpAny_assign_Name (store_put ok.en hx.1 (ok.nf _ i hx.1) hl I fun h' tk P=>K _ ⟨_,_,rfl⟩ (P.fz I hl R) ((P.step hl I).sub fun j hj=>by rw [List.mem_singleton.mp hj]; exact ok.bvi hx.1 fun z=>q (List.contains_iff_mem.mpr z)))
  | tup t=>
    cases R with
    | @tuple a vs n ds z ht hn R=>
      have he:asgs c.pin fr _ ds=some fr₂:=he
      refine assign_Tuple_tuple hh ⟨_,ht,rfl,_,rfl⟩ (by rw [t.len.1,asgs_len he,List.size_toArray,R.length]) t.len.2 fun h' ext=>?_
      have kp:∀b o,s.heap.get? b=some o→h'.get? b=some o:=fun b o e=>ext b o (Nat.ne_of_lt (Heap.lt_size e)) e
      refine names_asg (s:= {s with heap:=h'}) ok t (R.mono (fun b o J=>kp b o) fun J z=>z) he (I.grow kp) fun s' sh I' S'=>K s' ?_ I' ((Step.grow (tk:=s.toks) kp).trans S')
      obtain ⟨h2,tk2,rfl⟩:=sh; exact ⟨_,_,rfl⟩
    | _=>exact nos he
end
end Mv
end
section
namespace Mv
open PySem PyProof.Rows
variable [Hp]
section
variable {A:Around} {E:Value→Shared→Prop} {s:Shared}
theorem setItem_L {l:Addr} {items:Array Value} {m:Nat} {k:Int} {t:Tok} {v:Value} {Q:Unit→Shared→Prop} (hl:IsL s.heap l items m)
    (h0:0≤k) (hfit:k<2 ^ 63) (hn:k<items.size)
    (hQ:∀h' m',IsL h' l (items.setIfInBounds k.toNat v) m'→Heap.SameBut l s.heap h'→Q () {s with heap:=h'}) :
    wpAny (model prog w) A (setItem (.ref l) (.int k t) v) Q E s:=by
  have hL:=hl.isList
  unfold setItem
  try with_reducible refine wpAny_holding ?_
  first | refine wpAny_bind (wpAny_pure ?_) | skip
  refine wpAny_bind (wpAny_sequenceKey hL.typeIs (by decide) ?_)
  refine wpAny_bind (wpAny_callSpecial?_slot (name:=Str.ofString "__setitem__") hL.typeIs slot_list_setitem
    (wpAny_call_entry slot_list_setitem hL.typeIs entry_list_setitem ?_ (args_list_setitem _ _ _)))
  show wpAny _ _ (Builtin.List.listSubscript? (.int k t) >>= _) _ _ s
  refine wpAny_bind (wpAny_listSubscript_int (fitsIndex_of h0 hfit) ?_)
  clear hfit
  obtain ⟨j,rfl⟩:=Int.eq_ofNat_of_zero_le h0
  have hj:j<items.size:=by exact (lin [j,items.size] [] 1 (.nle (.a (.v 0) (.c 1)) (.v 1)) [(1,.le (.a (.n (.v 0)) (.c 1)) (.n (.v 1)))] rfl hn)
  have hx':items[j]? = some items[j]:=Array.getElem?_eq_getElem hj
  show wpAny _ _ ((seqItemAt l j >>= fun r=>pure (r.map (j, ·))) >>= _) _ _ s
  refine wpAny_bind (wpAny_bind (wpAny_seqItemAt hl rfl (wpAny_pure ?_)))
  rw [hx']
  show wpAny _ _ (setSeqItemAt l j v >>= _) _ _ s
  refine wpAny_bind (wpAny_setSeqItemAt hl rfl ?_)
  first
    | exact wpAny_bind (wpAny_pure (wpAny_pure ⟨.none,rfl,wpAny_pure (hQ _ _ (IsL.update hl (·.setIfInBounds j v)) (Heap.SameBut.update ..))⟩))
    | exact wpAny_pure ⟨.none,rfl,wpAny_pure (hQ _ _ (IsL.update hl (·.setIfInBounds j v)) (Heap.SameBut.update ..))⟩
end
section
variable {A:Around} {B:Heap} {mg mb:Str→Option Value} {tb:Tb} {c:Cfg} {n:Nat} {env:Env} {sc:Sc} {y:Lay}
  {bv bv':List Nat} {own own₁ own₀ own':Addr→Option Nat} {Z Z₁ Z₀ Z':Addr→Prop} {s s₁ s₀ s':Shared} {fr fr₁:Fm}
theorem own_step {i:Nat} {d d':D} {h':Heap} (I:Inv B y own Z s.heap fr) (hs:fr[i]? = some (.own d)) {l:Loc} {a:Addr} (hl:y.loc i=some l) (hr:rdL s.heap l (.ref a)) (oa:own a=some i)
    (hsb:Heap.SameBut a s.heap h') (W:OwnAt h' Z a d') :Inv B y own Z h' (fr.set i (.own d'))∧Step y [] own Z s own Z {s with heap:=h'}:=by
  have on:own a≠none:=by rw [oa]; exact fun n=>by cases n
  refine ⟨I.setC hs hl hr oa (fun b o q e=>hsb.extBut b o q e) W,⟨⟨_,_,rfl⟩,⟨fun b o e nw nf=>hsb.extBut b o (fun q=>nw (.inl (q▸on))) e,fun b o e=>?_,fun b o f e=>⟨o.slots,hsb.extBut b o (fun q=>I.oF a on (q▸f)) e⟩⟩,fun J z=>z,fun J z=>.inl z,fun J U e=>.inl e,fun j k v J hk r=>r.keeps fun o e=>hsb.extBut _ o (fun q=>on (q▸I.ol j k hk)) e⟩⟩
  by_cases q:b=a
  · subst q; exact W.live
  · exact ⟨o,hsb.extBut b o q e⟩
theorem PostS.from {out:Except Str Ctl×Fm} {f:Flow} {s'':Shared} (S:Step y bv own Z s own' Z' s') (p:PostS B y bv s₀ own' Z' s' out f s'') :PostS B y bv s₀ own Z s out f s'':=by
  obtain ⟨k,o,z,e,I,S',r⟩:=p
  exact ⟨k,o,z,e,I,S.trans S',r⟩
theorem plOwn_var {i:Nat} {d:D} (h:plOwn fr (.var i)=some d) :fr[i]? = some (.own d):=by
  simp only [plOwn] at h
  split at h
  · cases h; assumption
  · cases h
set_option tactic.hygienic true in
theorem ss_app {x:Str} {p apos pos pos':Pos} {e:Expr} {i:Nat} {z:Ex} (R:Rn A B mg mb tb c n) (ok:FnOk A sc env y c bv own₀) (hx:sc.isV x i) (ce:CE tb sc e z) (hp:(apos.endLine==pos.line)=true) :
    SS1 A B c y bv own₀ Z₀ s₀ (exec (.Expr (.Call (.Attribute (.Name x p) "append" apos) [e] [] pos) pos') env) (.app (.var i) z):=by
  intro own Z s fr out h I S
  rw [exS_app] at h
  split at h
  · rename_i hsome
    obtain ⟨d₀,hd₀⟩ :∃d₀,plOwn fr (.var i)=some (.list d₀):=by
      unfold ownL at hsome; split at hsome
      · rename_i q; exact ⟨_,q⟩
      · cases hsome
    have hs₀:=plOwn_var hd₀
    obtain ⟨l,v,hl,hr,a,rfl,oa,W⟩:=I.at' i _ hs₀ (by intro q; cases q)
    refine wpAny_Expr_any (wpAny_Call_append rfl (by rw [ce.star env []]; rfl) hp (by rw [ce.star env []]; rfl) (load_var ok.en hx hl hr ?_)) ok.ni rfl
    cases W with
    | @list vs m ds hil hz RA=>
      refine ⟨a,_,rfl,⟨_,_,hil,rfl,rfl,rfl⟩,?_⟩
      refine seqS ok.en ce ((sound_all R).1 sc _ _ ce env y ok.en).1 h I .refl fun r fr₂ own₂ Z₂ s₂ v e₁ h I₂ S₁ S₂ R₂=>?_
      split at h
      · rename_i d xs hd hxs
        split at h
        · rename_i hlen
          cases h
          have hs₂:=plOwn_var hxs
          obtain ⟨l',v',hl',hr',a',rfl,oa',W'⟩:=I₂.at' i _ hs₂ (by intro q; cases q)
          rw [hl] at hl'; cases hl'
          have hr₂:=S₁.bind i l _ (by intro q; cases q) hl hr
          obtain q:=hr₂.det hr'
          cases q
          obtain ⟨Z₃,I₃,S₃,R₃⟩:=R₂.freeze I₂ S₁ hd
          obtain ⟨l3,v3,hl3,hr3,a3,rfl,oa3,W₃⟩:=I₃.at' i _ hs₂ (by intro q; cases q)
          rw [hl] at hl3; cases hl3
          obtain q:=hr'.det hr3
          cases q
          have oa4:own₂ a=some i:=oa3
          cases W₃ with
          | @list vs m ds hil hz RA=>
            refine append_at (hsz:=by rw [List.size_toArray,← sz_line]; exact hz) hil fun h' hsb ho'=>?_
            have kz:∀b o,Z₃ b→s₂.heap.get? b=some o→h'.get? b=some o:=fun b o z e=>hsb.extBut b o (fun q=>by have:=I₃.zo b z; rw [q,oa4] at this; cases this) e
            have RA':=RA.mono kz fun J z=>z
            have W₄:OwnAt h' Z₃ a (.list (xs++[d])):=by
              refine .list (vs:=vs++[v]) (n:=m+1) (by simpa using ho') ?_ (RA'.append (.cons (R₃.mono kz fun J z=>z) .nil))
              rw [List.length_append,RA.length]; simp; exact hlen
            obtain ⟨I₄,S₄⟩:=own_step I₃ hs₂ hl hr3 oa4 hsb W₄
            have S':Step y bv own Z s own₂ Z₃ s₂:=S₃.sub fun J h=>by cases h
            exact ⟨.next,own₂,Z₃,rfl,I₄,S'.trans (S₄.sub fun J h=>by cases h),rfl⟩
        · cases h
      · cases h
  · cases h
set_option tactic.hygienic true in
theorem ss_setI {x:Str} {p p' pos:Pos} {value idx:Expr} {i:Nat} {z k:Ex} (R:Rn A B mg mb tb c n) (ok:FnOk A sc env y c bv own₀) (hx:sc.isV x i) (ce:CE tb sc value z) (ck:CE tb sc idx k) :
    SS1 A B c y bv own₀ Z₀ s₀ (exec (.Assign [.Subscript (.Name x p) idx p'] value pos) env) (.setI (.var i) k z):=by
  intro own Z s fr out h I S
  rw [exS_setI] at h
  refine wpAny_Assign_Subscript (seqS ok.en ce ((sound_all R).1 sc _ _ ce env y ok.en).1 h I .refl fun r fr₁ own₁ Z₁ s₁ v e₁ h I₁ S₁ S' R₁=>?_) (swaps_sub ce)
  split at h
  · rename_i hsome
    obtain ⟨d₀,hd₀⟩:=Option.isSome_iff_exists.mp hsome
    have hs₀:=plOwn_var hd₀
    obtain ⟨l,v₀,hl,hr,a,rfl,oa,W⟩:=I₁.at' i _ hs₀ (by intro q; cases q)
    refine load_var ok.en hx hl hr ?_
    refine seqS ok.en ck ((sound_all R).1 sc _ _ ck env y ok.en).1 h I₁ S' fun rk fr₂ own₂ Z₂ s₂ vk e₂ h I₂ S₂ S'' R₂=>?_
    split at h
    · rename_i d kd o hd hkd ho
      split at h
      · rename_i o' hset
        cases h
        have hs₂:=plOwn_var ho
        have R₁':=S₂.rv I₁ (rv_apart hd) R₁
        have S12:=S₁.trans S₂
        have R₁'':RvAt y own₂ Z₂ s.heap s₂.heap r v:=R₁'
        obtain ⟨Z₃,I₃,S₃,R₃⟩:=R₁''.freeze I₂ S12 hd
        obtain ⟨l3,v3,hl3,hr3,a3,rfl,oa3,W₃⟩:=I₃.at' i _ hs₂ (by intro q; cases q)
        rw [hl] at hl3; cases hl3
        obtain q:=(S₂.bind i l _ (by intro q; cases q) hl hr).det hr3
        cases q
        have oa4:own₂ a=some i:=oa3
        have hk:=R₂.dat I₂ (rvV_D hkd)
        cases W₃ with
        | @list vs m xs hil hz RA=>
          cases kd with
          | int j=>
            obtain ⟨t,rfl⟩:=hk.int
            have hset:(if 0≤j∧j<xs.length then _ else none)=some _:=hset
            split at hset
            · rename_i hj
              cases hset
              have hjl:j<vs.toArray.size:=by rw [List.size_toArray,RA.length]; exact hj.2
              have hzz:vs.length≤16777216:=hz
              have hjl':j<vs.length:=by simpa using hjl
              refine setItem_L hil hj.1 (by exact (lin [vs.length] [j] 1 (.le (.a (.v 0) (.c 1)) (.c 9223372036854775808)) [(1,.nle (.v 0) (.c 16777216)),(1,.le (.a (.v 0) (.c 1)) (.n (.v 0)))] rfl hz hjl')) hjl fun h' m' hil' hsb=>?_
              have kz:∀b o,Z₃ b→s₂.heap.get? b=some o→h'.get? b=some o:=fun b o z e=>hsb.extBut b o (fun q=>by have:=I₃.zo b z; rw [q,oa4] at this; cases this) e
              have W₄:OwnAt h' Z₃ a (.list (xs.set j.toNat d)):=by
                refine .list (vs:=vs.set j.toNat v) (n:=m') ?_ (by rw [List.length_set]; exact hz) ((RA.mono kz fun J z=>z).set j.toNat (R₃.mono kz fun J z=>z))
                rw [show vs.toArray.setIfInBounds j.toNat v=(vs.set j.toNat v).toArray from by simp] at hil'
                exact hil'
              obtain ⟨I₄,S₄⟩:=own_step I₃ hs₂ hl hr3 oa4 hsb W₄
              have S5:Step y bv own Z s own₂ Z₃ s₂:=S₃.sub fun J h=>by cases h
              exact ⟨.next,own₂,Z₃,rfl,I₄,S5.trans (S₄.sub fun J h=>by cases h),rfl⟩
            · cases hset
          | none=>cases hset
          | bool b=>cases hset
          | str b=>cases hset
          | list b=>cases hset
          | tuple b=>cases hset
          | dict b=>cases hset
        | @dict kvs ds hds hz RK=>
          cases kd with
          | str k=>
            obtain ⟨t,rfl,ok1,ok2⟩:=hk.str
            have hset:(if ds.length<Sz then _ else none)=some _:=hset
            split at hset
            · rename_i hj
              cases hset
              refine wpAny_setItem_pairs (knd:=strKind prog w) (strKind_is _ _ k t) hds.2 (fun h' hd' hsb=>?_) (by rw [← sz_line]; exact hz)
              have kz:∀b o,Z₃ b→s₂.heap.get? b=some o→h'.get? b=some o:=fun b o z e=>hsb.extBut b o (fun q=>by have:=I₃.zo b z; rw [q,oa4] at this; cases this) e
              have RK':=(RK.mono kz fun J z=>z).set ok1 ok2 (R₃.mono kz fun J z=>z)
              have W₄:OwnAt h' Z₃ a (.dict (dsetL ds k d)):=.dict ⟨hds.1,hd'⟩ (by rw [RK'.length]; exact Nat.le_trans (dsetL_len k d ds) hj) RK'
              obtain ⟨I₄,S₄⟩:=own_step I₃ hs₂ hl hr3 oa4 hsb W₄
              have S5:Step y bv own Z s own₂ Z₃ s₂:=S₃.sub fun J h=>by cases h
              exact ⟨.next,own₂,Z₃,rfl,I₄,toks_step (S5.trans (S₄.sub fun J h=>by cases h)),rfl⟩
            · cases hset
          | none=>cases hset
          | bool b=>cases hset
          | int b=>cases hset
          | list b=>cases hset
          | tuple b=>cases hset
          | dict b=>cases hset
      · cases h
    · cases h
  · cases h
theorem ss_exp {e:Expr} {pos:Pos} {z:Ex} (R:Rn A B mg mb tb c n) (ok:FnOk A sc env y c bv own₀) (ce:CE tb sc e z) (hc:noComp e=true) :SS1 A B c y bv own₀ Z₀ s₀ (exec (.Expr e pos) env) (.exp z):=by
  intro own Z s fr out h I S
  rw [exS_exp] at h
  refine wpAny_Expr_any (seqS ok.en ce ((sound_all R).1 sc _ _ ce env y ok.en).1 h I .refl fun r fr₁ own₁ Z₁ s₁ v e₁ h I₁ S₁ S' R₁=>?_) ok.ni (swaps_plain ce hc)
  cases h
  exact ⟨.next,own₁,Z₁,rfl,I₁,S',rfl⟩
theorem ss_pass {pos:Pos} :SS1 A B c y bv own₀ Z₀ s₀ (exec (.Pass pos) env) (.exp (.lit .none)):=by
  intro own Z s fr out h I S
  cases h
  exact wpAny_Pass ⟨.next,own,Z,rfl,I,.refl,rfl⟩
set_option tactic.hygienic true in
theorem ss_ret {e:Expr} {pos:Pos} {z:Ex} (R:Rn A B mg mb tb c n) (ok:FnOk A sc env y c bv own₀) (ce:CE tb sc e z) :SS1 A B c y bv own₀ Z₀ s₀ (exec (.Return (some e) pos) env) (.ret z):=by
  intro own Z s fr out h I S
  rw [exS_ret] at h
  refine wpAny_Return_some (seqS ok.en ce ((sound_all R).1 sc _ _ ce env y ok.en).1 h I .refl fun r fr₁ own₁ Z₁ s₁ v e₁ h I₁ S₁ S' R₁=>?_)
  split at h
  · cases h
  · rename_i hne
    cases h
    refine ⟨.ret r,own₁,Z₁,rfl,I₁,S',v,rfl,R₁.since S.old,?_⟩
    rcases ev_val e₁ with q | ⟨p,rfl,_⟩
    · exact q
    · exact absurd rfl (hne p)
theorem ss_retN {pos:Pos} :SS1 A B c y bv own₀ Z₀ s₀ (exec (.Return none pos) env) (.ret (.lit .none)):=by
  intro own Z s fr out h I S
  cases h
  exact wpAny_Return_none ⟨.ret (.fz .none),own,Z,rfl,I,.refl,.none,rfl,.none,_,rfl⟩
theorem ss_nil:SS A B c y bv own₀ Z₀ s₀ (execs [] env) []:=by
  intro own Z s fr out h I S
  cases h
  exact wpAny_execs_nil ⟨.next,own,Z,rfl,I,.refl,rfl⟩
theorem ss_cons {st:Stmt} {ss:List Stmt} {z:St} {zs:List St} (H1:SS1 A B c y bv own₀ Z₀ s₀ (exec st env) z) (H2:SS A B c y bv own₀ Z₀ s₀ (execs ss env) zs) :SS A B c y bv own₀ Z₀ s₀ (execs (st::ss) env) (z::zs):=by
  intro own Z s fr out h I S
  rw [exSs_cons] at h
  refine wpAny_execs_cons ?_
  rcases bnd_some h with ⟨e,f,hm,rfl⟩ | ⟨k,f,hm,h⟩
  · refine wpAny_mono (H1 own Z s fr _ hm I S) (fun fl s' p=>?_) fun J U x=>x
    obtain ⟨_,_,_,q,_⟩:=p; cases q
  · refine wpAny_mono (H1 own Z s fr _ hm I S) (fun fl s' p=>?_) fun J U x=>x.elim
    obtain ⟨k',own',Z',q,I',S',r⟩:=p
    cases q
    cases k with
    | next=>
      cases r
      refine wpAny_mono (H2 own' Z' s' f out h I' (S.trans S')) (fun fl s'' p=>?_) fun J U x=>x.sub (fun J h=>h) S'
      exact p.from S'
    | ret rv=>
      cases h
      obtain ⟨v,rfl,r⟩:=r
      exact ⟨.ret rv,own',Z',rfl,I',S',v,rfl,r⟩
set_option tactic.hygienic true in
theorem ss_iff {t:Expr} {a b:List Stmt} {pos:Pos} {z:Ex} {xa xb:List St} (R:Rn A B mg mb tb c n) (ok:FnOk A sc env y c bv own₀) (ce:CE tb sc t z) (Ha:SS A B c y bv own₀ Z₀ s₀ (execs a env) xa) (Hb:SS A B c y bv own₀ Z₀ s₀ (execs b env) xb) :
    SS1 A B c y bv own₀ Z₀ s₀ (exec (.If t a b pos) env) (.iff z xa xb):=by
  intro own Z s fr out h I S
  rw [exS_iff] at h
  refine wpAny_If (seqST ok.en ce ((sound_all R).1 sc _ _ ce env y ok.en).2 h I .refl (fun r fr₂ h=>?_) fun r d fr₂ own₂ Z₂ s₂ h hd I₂ S₂=>?_)
  · split at h
    · exact ⟨_,by assumption⟩
    · cases h
  · rw [hd] at h
    dsimp only at h
    split at h
    · rename_i ht; rw [if_pos ht]; exact wpAny_mono (Ha own₂ Z₂ s₂ fr₂ out h I₂ (S.trans S₂)) (fun fl s'' p=>p.from S₂) fun J U x=>x.sub (fun J h=>h) S₂
    · rename_i ht; rw [if_neg ht]; exact wpAny_mono (Hb own₂ Z₂ s₂ fr₂ out h I₂ (S.trans S₂)) (fun fl s'' p=>p.from S₂) fun J U x=>x.sub (fun J h=>h) S₂
inductive FInv (B:Heap) (y:Lay) (bv:List Nat) (own:Addr→Option Nat) (Z:Addr→Prop) (s:Shared) (items:List D) (fp wr:List Addr) (P:Nat→Itm→Prop) (St:Nat→Heap→Prop) (c:Cfg) (t:Tgt) (xb:List Mv.St) (tmp:List Nat) (out:Except Str Ctl×Fm) (m:Nat) (s':Shared) :Prop
  | mk (k:Nat) (own':Addr→Option Nat) (Z':Addr→Prop) (fr':Fm) :m=items.length+1 - k→k≤items.length→Inv B y own' Z' s'.heap fr'→Step y bv own Z s own' Z' s'→WkAt y items fp wr P St s.heap own' Z' s'.heap k→
      forB c fr' t xb tmp (items.drop k)=some out→FInv B y bv own Z s items fp wr P St c t xb tmp out m s'
set_option tactic.hygienic true in
theorem ss_for {g:Expr} {pos:Pos} {iter:Expr} {body:List Stmt} {t:Tgt} {it:Itk} {src:List Ex} {xb:List St} {tmp:List Nat} (R:Rn A B mg mb tb c n) (ok:FnOk A sc env y c bv own₀) (tg:TG sc g t) (hz:it = .zip→t.isTup=true) (hit:IT tb sc iter it src) (Hb:SS A B c y bv own₀ Z₀ s₀ (execs body env) xb) :
    SS1 A B c y bv own₀ Z₀ s₀ (exec (.For g iter body [] pos) env) (.for_ t it src xb tmp):=by
  intro own Z s fr out h I S
  rw [exS_for] at h
  cases hhd:c.hd with
  | true=>rw [hhd] at h; cases h
  | false=>
  rw [hhd,if_neg Bool.false_ne_true] at h
  have gk:gOk it g:=fun q=>by
    cases tg with
    | one=>cases hz q
    | tup t=>exact ⟨_,_,_,rfl⟩
  have hI:=(sound_all R).2.2 _ _ _ _ hit env y ok.en
  refine wpAny_For ?_ (hit.noFold env)
  rcases bnd_some h with ⟨e,f,hm,rfl⟩ | ⟨rs,fr₁,hm,h⟩
  · refine wpAny_mono (hI own Z s fr _ hm (fun rs q=>by cases q) hhd I) (fun x s₁ p=>wpAny_mono p (fun itv s₂ p=>?_) fun J U x=>(x.strong ok.en (bv_hi.2 sc _ _ _ hit) .refl).up (fun J h=>h) .refl) fun J U x=>(x.strong ok.en (bv_hi.2 sc _ _ _ hit) .refl).up (fun J h=>h) .refl
    obtain ⟨_,_,_,_,_,_,_,_,_,_,q,_⟩:=p; cases q
  · split at h
    · cases h
    · rename_i ds hds
      split at h
      · cases h
      · rename_i items hitems
        refine wpAny_mono (hI own Z s fr _ hm (fun rs q=>by cases q; exact ⟨ds,items,hds,hitems⟩) hhd I) (fun xv s₁ p=>wpAny_mono p (fun itv s₂ p=>?_) fun J U x=>x.elim) fun J U x=>x.elim
        obtain ⟨rs',ds',items',own₁,Z₁,It,fp,wr,P,St,q,hds',hit',hlen,rfl,I₂,S₂,W,WA⟩:=p
        cases q
        rw [hds] at hds'; cases hds'
        rw [hitems] at hit'; cases hit'
        dsimp only at I₂
        have S₂:Step y bv own Z s own₁ Z₁ s₂:=(S₂.strong ok.en (bv_hi.2 sc _ _ _ hit)).sub fun J h=>by cases h
        refine codeAny_forLoop_any (FInv B y bv own Z s items fp wr P St c t xb tmp out) ?_ (items.length+1) ⟨0,own₁,Z₁,fr₁,rfl,Nat.zero_le _,I₂,S₂,WA,by rw [List.drop_zero]; exact h⟩
        rintro m s' ⟨k,own',Z',fr',rfl,hk,I',S',WA',hh⟩
        by_cases hkl:k<items.length
        · have hd:items[k]? = some items[k]:=List.getElem?_eq_getElem hkl
          rw [List.drop_eq_getElem_cons hkl] at hh
          generalize items[k]=d at hd hh
          rw [forB_cons] at hh
          refine next_item W gk WA' I' S' hd (fun J U p=>p) fun val s₅ Z₅ J Rv₅ WA₅ I₅ S₅ U j2_=>?_
          have I₅c:=I₅.clr tmp
          split at hh
          · cases hh
          · rename_i fr₆ he
            refine tgt_asg ok (R.hh hhd) tg he I₅c Rv₅ fun s₆ J I₆ S₆=>?_
            have WA₆:=WA₅.step W I₅c S₆
            have S₆':=S₅.trans S₆
            obtain ⟨kk,f,hm,hh⟩:=bndN_some hh
            · refine wpAny_mono (Hb own' Z₅ s₆ fr₆ _ hm I₆ (S.trans S₆')) (fun fl s₇ p=>?_) fun J U x=>x.elim
              obtain ⟨k',own₇,Z₇,q,I₇,S₇,r⟩:=p
              cases q
              dsimp only at I₇
              cases kk with
              | next=>
                cases r
                exact ⟨items.length+1 - (k+1),turn_dec hk,k+1,own₇,Z₇,f,rfl,hkl,I₇,S₆'.trans S₇,WA₆.step W I₆ S₇,hh⟩
              | ret rv=>
                cases hh
                obtain ⟨v,rfl,r⟩:=r
                exact ⟨.ret rv,own₇,Z₇,rfl,I₇,S₆'.trans S₇,v,rfl,r⟩
        · have hke:k=items.length:=Nat.le_antisymm hk (Nat.not_lt.mp hkl)
          subst hke
          rw [List.drop_length,forB_nil] at hh
          cases hh
          refine next_done W WA' I' S' fun s'' I'' S'' kp J=>wpAny_execs_nil ⟨.next,own',Z',rfl,I''.clr tmp,S'',rfl⟩
inductive WInv (B:Heap) (y:Lay) (bv:List Nat) (own:Addr→Option Nat) (Z:Addr→Prop) (s:Shared) (c:Cfg) (z:Ex) (xb:List Mv.St) (tmp:List Nat) (out:Except Str Ctl×Fm) (m:Nat) (s':Shared) :Prop
  | mk (own':Addr→Option Nat) (Z':Addr→Prop) (fr':Fm) :Inv B y own' Z' s'.heap fr'→Step y bv own Z s own' Z' s'→whB c fr' z xb tmp m=some out→WInv B y bv own Z s c z xb tmp out m s'
end
end Mv
end
section
namespace Mv
open PySem PyProof.Rows
variable [Hp]
structure Lv (P fs:Addr→Prop) (h h':Heap) :Prop where
  keep:∀b o,h.get? b=some o→ ¬P b→ ¬fs b→h'.get? b=some o
  slot:∀b o,fs b→ ¬P b→h.get? b=some o→ ∃sl,h'.get? b=some {o with slots:=sl}
  live:∀b o,h.get? b=some o→ ∃o',h'.get? b=some o'
theorem Lv.trans {P fs:Addr→Prop} {h h' h'':Heap} (x:Lv P fs h h') (z:Lv P fs h' h'') :Lv P fs h h'' where
  keep:=fun b o e p f=>z.keep b o (x.keep b o e p f) p f
  slot:=fun b o f p e=>let ⟨_,e'⟩:=x.slot b o f p e; let ⟨sl,e''⟩:=z.slot b _ f p e'; ⟨sl,e''⟩
  live:=fun b o e=>let ⟨o',e'⟩:=x.live b o e; z.live b o' e'
theorem Lv.upd {P fs:Addr→Prop} {h:Heap} {T:Addr} {f:Obj→Obj} {o:Obj} (p:P T) (e:h.get? T=some o) (q:(f o).isFreed=false) :Lv P fs h (h.update T f) where
  keep:=fun b o e n J=>(Heap.get?_update_other h f fun q:T=b=>n (q▸p)).trans e
  slot:=fun b o J n e=>⟨o.slots,(Heap.get?_update_other h f fun q:T=b=>n (q▸p)).trans e⟩
  live:=fun b o' e'=>by
    by_cases z:b=T
    · subst z; exact ⟨_,Heap.get?_update_self f e q⟩
    · exact ⟨o',(Heap.get?_update_other h f (Ne.symm z)).trans e'⟩
theorem Lv.push {P fs:Addr→Prop} {h:Heap} (o:Obj) :Lv P fs h (h.push o) where
  keep:=fun b o e J U=>pK _ b o e
  slot:=fun b o J U e=>⟨o.slots,pK _ b o e⟩
  live:=fun b o e=>⟨o,pK _ b o e⟩
theorem Lv.slots {P fs:Addr→Prop} {h h':Heap} {S:List Addr} (x:Heap.SlotsOnly S h h') (k:∀b∈S,fs b) :Lv P fs h h' where
  keep:=fun b o e J f=>(x.2.1 b fun q=>f (k b q)).trans e
  slot:=fun b o J U e=>x.2.2 b o e
  live:=fun b o e=>let ⟨_,e⟩:=x.2.2 b o e; ⟨_,e⟩
theorem dict_map (o:Obj) (f:Array Value→Array Value) :(Obj.mapFields f o).dict=o.dict:=by obtain ⟨c,d,dt,sl⟩:=o; cases dt <;> rfl
noncomputable def ExcTr (B h:Heap) (P:Addr→Prop) (a:Addr) (nm:Str) :Prop:=
  P a∧ ∃oe vs C m,h.get? a=some oe∧(oe.cls = .ref C∧oe.dict=none)∧oe.data = .fields vs∧B.Ns mainGlobals m∧m nm=some (.ref C)∧
    ∃T oT ts,vs[1]? = some (.ref T)∧T≠a∧h.get? T=some oT∧oT.data = .fields ts∧ts[3]? = some .none∧P T
theorem ExcTr.is {B h:Heap} {P:Addr→Prop} {a:Addr} {nm:Str} :ExcTr B h P a nm→ExcIs B h P a nm:=by
  intro x; obtain ⟨p,oe,vs,C,m,h1,h2,h3,h4,h5,h6⟩:=x; exact ⟨p,oe,vs,C,m,h1,h2,h3,h4,h5,.inr h6⟩
section
variable {M:Model} {A:Around} {E:Value→Shared→Prop} {s:Shared} {env:Env} {outer:List Env} {B:Heap} {L a:Addr} {nm:Str} {P:Addr→Prop} {Q:Unit→Shared→Prop}
theorem entry_exc {oe:Obj} {vs:Array Value} {C:Addr} {m:Str→Option Value} {head:Value} {hadNext:Bool} (hfr:A.frames=some (env::outer)) (hl:s.heap.FunFrames B (env::outer)) (hf:env.frame=some L) (he:s.heap.get? a=some oe) (hd:oe.data = .fields vs) (hsz:1<vs.size)
    (hc:oe.cls = .ref C∧oe.dict=none) (hn:B.Ns mainGlobals m) (hm:m nm=some (.ref C)) (pa:P a) (hP:∀b,s.heap.get? b=none→P b)
    (k:∀h',Lv P (fun b=>b∈(env::outer).filterMap (·.frame)) s.heap h'→ExcTr B h' P a nm→Q () {s with heap:=h'}) :
    wpAny M A (do let fa ← frameOf env; let pl ← entryPlaceOf L hadNext; let b ← EntryCells.newEntry head fa .none (rawInt L) .none pl; setField (.ref a) 1 b) (fun J s'=>wpAny M A (setFlight (.ref a) none) Q E s') E s:=by
  have ha:a∉(env::outer).filterMap (·.frame):=fun q=>by
    obtain ⟨_,o,ho,nr⟩:=hl.mem q
    rw [he] at ho; cases ho; exact nr vs hd
  refine wpAny_bind (wpAny_frameOf_fun hfr hl hf fun h₁ x₁=>?_)
  refine wpAny_bind (wpAny_entryPlaceOf fun pl hpl=>?_)
  unfold EntryCells.newEntry newFields
  refine wpAny_bind (wpAny_newObj_type ?_ (hpl.sizeOk5 _ _ _ _ _))
  have e₁:h₁.get? a=some oe:=(x₁.2.1 a ha).trans he
  generalize hT:({cls:=.type "traceback",dict:=none,data:=.fields ([head,.ref L,.none,rawInt L,.none] ++ (if pl.isEmpty then List.replicate 6 Value.none else pl)).toArray} :Obj) = oT
  have e₂:=Heap.get?_push_of_some (h:=h₁) oT e₁
  refine wpAny_setField e₂ hd hsz ?_
  have ne:h₁.objs.size≠a:=Nat.ne_of_gt (Heap.lt_size e₁)
  have hd₃:=Obj.data_mapFields hd (·.setIfInBounds 1 (Value.ref h₁.objs.size))
  have fr₃:=Obj.isFreed_of_fields hd₃
  have e₃:=Heap.get?_update_self (Obj.mapFields (·.setIfInBounds 1 (Value.ref h₁.objs.size))) e₂ fr₃
  have hTf:oT.isFreed=false:=by rw [← hT]; rfl
  have t₃:=(Heap.get?_update_other (h₁.push oT) (Obj.mapFields (·.setIfInBounds 1 (Value.ref h₁.objs.size))) (Ne.symm ne)).trans (Heap.get?_push_size h₁ hTf)
  obtain ⟨ts,hts,hsz3⟩ :∃ts,oT.data = .fields ts∧3<ts.size:=⟨_,by rw [← hT],by simp only [List.size_toArray,List.length_append,List.length_cons,List.length_nil]; exact (lin [(if pl.isEmpty=true then List.replicate (6:Nat) Value.none else pl).length] [] 1 (.nle (.a (.c 3) (.c 1)) (.a (.a (.a (.a (.a (.a (.c 0) (.c 1)) (.c 1)) (.c 1)) (.c 1)) (.c 1)) (.v 0))) [] rfl)⟩
  refine wpAny_setFlight_none e₃ hd₃ (tb:=h₁.objs.size) (by simp [hsz]) t₃ hts hsz3 (k _ ?_ ?_)
  · have pT:P h₁.objs.size:=hP _ (by rw [x₁.1]; exact hN0 _)
    exact ((Lv.slots x₁ fun b q=>q).trans (Lv.push oT)).trans ((Lv.upd pa e₂ fr₃).trans (Lv.upd pT t₃ (Obj.isFreed_of_fields (Obj.data_mapFields hts _))))
  · have pT:P h₁.objs.size:=hP _ (by rw [x₁.1]; exact hN0 _)
    refine ⟨pa,_,_,C,m,(Heap.get?_update_other _ _ ne).trans e₃,⟨(Obj.cls_mapFields _ _).trans hc.1,(dict_map _ _).trans hc.2⟩,hd₃,hn,hm,⟨h₁.objs.size,_,_,by simp [hsz],ne,Heap.get?_update_self _ t₃ (Obj.isFreed_of_fields (Obj.data_mapFields hts _)),Obj.data_mapFields hts _,?_,pT⟩⟩
    simp [hsz3]
theorem leave_exc (hfr:A.frames=some (env::outer)) (hl:s.heap.FunFrames B (env::outer)) (hf:env.frame=some L) (X:ExcIs B s.heap P a nm) (hP:∀b,s.heap.get? b=none→P b)
    (k:∀h',Lv P (fun b=>b∈(env::outer).filterMap (·.frame)) s.heap h'→ExcTr B h' P a nm→Q () {s with heap:=h'}) :
    wpAny M A (noteFrame (.ref a) env) (fun J s'=>wpAny M A (setFlight (.ref a) none) Q E s') E s:=by
  obtain ⟨pa,oe,vs,C,m,he,hc,hd,hn,hm,ht⟩:=X
  unfold noteFrame
  simp only [hf]
  rcases ht with h1 | ⟨T,oT,ts,h1,ne,eT,hdT,h3,pT⟩
  · refine wpAny_bind (wpAny_field he hd h1 ?_)
    rw [if_neg (by decide)]
    exact entry_exc hfr hl hf he hd (Array.getElem?_eq_some_iff.mp h1).1 hc hn hm pa hP k
  · refine wpAny_bind (wpAny_field he hd h1 ?_)
    rw [if_pos (show (Value.ref T != Value.none)=true from by simp)]
    refine wpAny_bind (wpAny_field eT hdT h3 ?_)
    rw [if_neg (show ¬((Value.none==rawInt L)=true) from by simp [rawInt])]
    refine wpAny_bind (wpAny_setField eT hdT (Array.getElem?_eq_some_iff.mp h3).1 ?_)
    have fT:=Obj.isFreed_of_fields (Obj.data_mapFields hdT (·.setIfInBounds 3 Value.none))
    have u:Lv P (fun b=>b∈(env::outer).filterMap (·.frame)) s.heap (s.heap.update T (Obj.mapFields (·.setIfInBounds 3 Value.none))):=Lv.upd pT eT fT
    have hl':(s.heap.update T (Obj.mapFields (·.setIfInBounds 3 Value.none))).FunFrames B (env::outer):=hl.of_keeps fun b o hb nr=>⟨o,(Heap.get?_update_other _ _ fun q=>by subst q; rw [eT] at hb; cases hb; exact nr ts hdT).trans hb,rfl⟩
    refine entry_exc (s:= {s with heap:=s.heap.update T (Obj.mapFields (·.setIfInBounds 3 Value.none))}) hfr hl' hf ((Heap.get?_update_other _ _ ne).trans he) hd (Array.getElem?_eq_some_iff.mp h1).1 hc hn hm pa (fun b e=>hP b ?_) fun h' x y=>k h' (u.trans x) y
    cases q:s.heap.get? b with
    | none=>rfl
    | some o=>obtain ⟨o',e'⟩:=u.live b o q; rw [e] at e'; cases e'
theorem land_exc (X:ExcTr B s.heap P a nm) (k:∀h',Lv P (fun J=>False) s.heap h'→ExcTr B h' P a nm→Q () {s with heap:=h'}) :wpAny M A (setFlight (.ref a) none) Q E s:=by
  obtain ⟨pa,oe,vs,C,m,he,hc,hd,hn,hm,T,oT,ts,h1,ne,eT,hdT,h3,pT⟩:=X
  have sz:=(Array.getElem?_eq_some_iff.mp h3).1
  have fT:=Obj.isFreed_of_fields (Obj.data_mapFields hdT (·.setIfInBounds 3 Value.none))
  refine wpAny_setFlight_none he hd h1 eT hdT sz (k _ (Lv.upd pT eT fT) ⟨pa,oe,vs,C,m,(Heap.get?_update_other _ _ ne).trans he,hc,hd,hn,hm,T,_,_,h1,ne,Heap.get?_update_self _ eT fT,Obj.data_mapFields hdT _,?_,pT⟩)
  simp [sz]
end
section
variable {B:Heap} {y:Lay} {bv bv':List Nat} {own own':Addr→Option Nat} {Z Z':Addr→Prop} {s s':Shared} {h':Heap} {fr:Fm} {P fs:Addr→Prop}
theorem Ns_lv (I:Inv B y own Z s.heap fr) (x:Lv P fs s.heap h') (hp:∀b,P b→ ¬y.wr own b∧ ¬y.F b∧ ¬Z b) (hf:∀b,fs b→y.F b∨b=y.L) {i:Nat} {l:Loc} (hl:y.loc i=some l) :
    (∀v,rdL s.heap l v→rdL h' l v)∧(okL s.heap l→okL h' l):=by
  have np:¬P l.addr:=fun p=>(hp _ p).1 (.inr (.inr ⟨i,l,hl,rfl⟩))
  by_cases q:fs l.addr
  · have hL:l.addr=y.L:=(hf _ q).elim (fun f=>absurd f (I.wf.nf i l hl)) id
    cases l with
    | dict b x'=>exact ⟨fun v ⟨m,hn,hm⟩=>⟨m,Ns_slots hn fun o=>x.slot b o q np,hm⟩,fun ⟨m,hn⟩=>⟨m,Ns_slots hn fun o=>x.slot b o q np⟩⟩
    | cell b=>exact absurd hL (I.wf.cl i b hl)
  · exact ⟨fun v r=>r.keeps fun o e=>x.keep _ o e np q,fun r=>r.keeps fun o e=>x.keep _ o e np q⟩
theorem Inv.lv (I:Inv B y own Z s.heap fr) (x:Lv P fs s.heap h') (hp:∀b,P b→ ¬y.wr own b∧ ¬y.F b∧ ¬Z b) (hf:∀b,fs b→y.F b∨b=y.L) :Inv B y own Z h' fr:=by
  have kz:∀a o,Z a→s.heap.get? a=some o→h'.get? a=some o:=fun a o z e=>x.keep a o e (fun p=>(hp a p).2.2 z) fun f=>(hf a f).elim (I.zF a z) fun q=>I.zL (q▸z)
  have ko:∀a o,own a≠none→s.heap.get? a=some o→h'.get? a=some o:=fun a o z e=>x.keep a o e (fun p=>(hp a p).1 (.inl z)) fun f=>(hf a f).elim (I.oF a z) fun q=>z (q▸I.oL)
  refine ⟨I.wf,fun a o e=>kz a o (I.zb a o e) (I.base a o e),I.zb,I.zo,I.zl,I.ol,I.zL,I.oL,I.zF,I.oF,fun a z=>?_,fun a z=>?_,fun a f=>?_,fun i l hl=>(Ns_lv I x hp hf hl).2 (I.ok i l hl),?_,fun i sl e n=>?_⟩
  · obtain ⟨o,e⟩:=I.zlv a z; exact ⟨o,kz a o z e⟩
  · obtain ⟨o,e⟩:=I.olv a z; exact ⟨o,ko a o z e⟩
  · obtain ⟨o,e,nr⟩:=I.flv a f
    have np:¬P a:=fun p=>(hp a p).2.1 f
    by_cases q:fs a
    · obtain ⟨sl,e'⟩:=x.slot a o q np e; exact ⟨_,e',nr⟩
    · exact ⟨o,x.keep a o e np q,nr⟩
  · obtain ⟨m,hn⟩:=I.nsL
    have np:¬P y.L:=fun p=>(hp _ p).1 (.inr (.inl rfl))
    by_cases q:fs y.L
    · exact ⟨m,Ns_slots hn fun o=>x.slot _ o q np⟩
    · exact ⟨m,hn.at' fun o e=>x.keep _ o e np q⟩
  · obtain ⟨l,v,hl,r,q⟩:=I.at' i sl e n
    exact ⟨l,v,hl,(Ns_lv I x hp hf hl).1 v r,q.mono kz (fun J z=>z) (fun J z=>z) fun a o z=>ko a o (by rw [z]; exact fun n=>by cases n)⟩
theorem Step.lv (S:Step y bv own Z s own' Z' s') (I:Inv B y own' Z' s'.heap fr) (x:Lv P fs s'.heap h') (hp:∀b,P b→s.heap.get? b=none∧ ¬y.wr own' b∧ ¬y.F b∧ ¬Z' b) (hf:∀b,fs b→y.F b∨b=y.L) {tk:Nat} :Step y bv own Z s own' Z' {s' with heap:=h',toks:=tk} where
  sh:=by obtain ⟨h₁,tk₁,rfl⟩:=S.sh; exact ⟨_,_,rfl⟩
  ext:=⟨fun a o e nw nf=>x.keep a o (S.ext.keep a o e nw nf) (fun p=>by rw [(hp a p).1] at e; cases e) fun f=>(hf a f).elim nf fun q=>nw (.inr (.inl q)),
    fun a o e=>let ⟨o',e'⟩:=S.ext.live a o e; x.live a o' e',
    fun a o f e=>by
      obtain ⟨sl,e'⟩:=S.ext.fram a o f e
      have np:¬P a:=fun p=>(hp a p).2.2.1 f
      by_cases q:fs a
      · obtain ⟨sl',e''⟩:=x.slot a _ q np e'; exact ⟨sl',e''⟩
      · exact ⟨sl,x.keep a _ e' np q⟩⟩
  zm:=S.zm
  zn:=S.zn
  on:=S.on
  bind:=fun i l v n hl r=>(Ns_lv I x (fun b p=>(hp b p).2) hf hl).1 v (S.bind i l v n hl r)
theorem frames_fun {A:Around} (I:Inv B y own Z s.heap fr) (st:FrOk (fun a=>y.F a∨a=y.L) A) :∃l,A.frames=some l∧s.heap.FunFrames B l∧ ∀b∈l.filterMap (·.frame),y.F b∨b=y.L:=by
  obtain ⟨l,hl,hk⟩:=st
  refine ⟨l,hl,?_,fun b hb=>?_⟩
  · clear hl
    induction l with
    | nil=>trivial
    | cons e l ih=>
      obtain ⟨h1,L,h2,h3⟩:=hk e (.head _)
      refine ⟨h1,?_,ih fun e he=>hk e (.tail _ he)⟩
      have nz:¬Z L:=fun z=>h3.elim (I.zF L z) fun q=>I.zL (q▸z)
      have nb:B.get? L=none:=by
        cases q:B.get? L with
        | none=>rfl
        | some o=>exact absurd (I.zb L o q) nz
      rcases h3 with h3 | h3
      · obtain ⟨o,ho,nr⟩:=I.flv L h3; exact ⟨L,o,h2,nb,ho,nr⟩
      · obtain ⟨m,o,_,_,ho,hd,_⟩:=I.nsL; exact ⟨L,o,h2,nb,h3▸ho,fun vs q=>by rw [hd] at q; cases q⟩
  · obtain ⟨e,he,h1⟩:=List.mem_filterMap.mp hb
    obtain ⟨_,L,h2,h3⟩:=hk e he
    rw [h2] at h1; cases h1; exact h3
end
end Mv
end
section
namespace Mv
open PySem PyProof.Rows
variable [Hp]
theorem Ns_det {h:Heap} {a:Addr} {m m':Str→Option Value} (x:h.Ns a m) (z:h.Ns a m') (k:Str) :m k=m' k:=by
  obtain ⟨o,es,ep,ho,hd,hk,hf⟩:=x
  obtain ⟨o',es',ep',ho',hd',hk',hf'⟩:=z
  rw [ho] at ho'; cases ho'
  rw [hd] at hd'; cases hd'
  rw [← hf,hf']
section
variable {A:Around} {B:Heap} {mg mb:Str→Option Value} {tb:Tb} {c:Cfg} {n:Nat} {env:Env} {sc:Sc} {y:Lay}
  {bv bv':List Nat} {own own₁ own₀ own':Addr→Option Nat} {Z Z₁ Z₀ Z':Addr→Prop} {s s₁ s₀ s':Shared} {fr fr₁:Fm}
theorem ss_raise {k msg:Str} {np cpos pos ap:Pos} {kk:Nat} (R:Rn A B mg mb tb c n) (ok:FnOk A sc env y c bv own₀) (hg:sc.isG k) (hk:k∈tb.cl) :
    SS1 A B c y bv own₀ Z₀ s₀ (exec (.Raise (some (.Call (.Name k np) [.Constant (.str msg) kk ap] [] cpos)) none pos) env) (.raise k):=by
  intro own Z s fr out h I S
  rw [exS_raise] at h
  cases hhd:c.hd with
  | true=>rw [hhd] at h; exact nos h
  | false=>
  rw [hhd,if_neg Bool.false_ne_true] at h
  obtain rfl:=sos h
  obtain ⟨C,Bb,newId,initId,bm,O,FB⟩:=R.gd.cl k hk
  obtain ⟨tl,N,nm,q,bs,hdct,sn,sub,ab,col,dd,k0,k1,k2,k3,k5,mN,hC,hN,hq,T⟩:=O.obj
  refine wpAny_Raise_call_subT (C:=C) (nm:=nm) (q:=q) (N:=N) (bs:=bs) (bm:=tl) (hdct:=hdct) (sn:=sn) (sub:=sub) (ab:=ab) (col:=col) (dd:=dd) (k0:=k0) (k1:=k1) (k2:=k2) (k3:=k3) (k5:=k5)
    FB (mN:=mN) (T.tail.hasType FB.hasBase) (R.hh hhd) rfl (hq _ (.head _)) (load_glob R.gd ok.en I hg O.bound ⟨rfl,?_⟩)
  refine Calls.evalArgs_plain (Calls.spliced_cons (wpAny_Constant_str (k:=kk) (pos:=ap) (Calls.spliced_nil ?_)))
  refine ⟨rfl,(by show 1≤sizeLine; decide),I.base _ _ hC,hN.keeps I.base,T.tail.keeps I.base,fun h' e hm=>?_⟩
  obtain ⟨t,he,_,_⟩:=hm.there
  have f:=I.fresh hm.new
  exact ⟨k,e,own,Z,rfl,rfl,I.grow hm.keeps,.grow hm.keeps,⟨hm.new,f⟩,_,_,C,mg,he,⟨rfl,rfl⟩,rfl,R.gd.g,O.bound,.inl rfl⟩
theorem ss_try {x cn:Str} {p hp pos:Pos} {i:Nat} {yes no:List Str} {body hs:List Stmt} {h0:Stmt} {xb xh:List St} (R:Rn A B mg mb tb c n) (ok:FnOk A sc env y c bv own₀) (hx:sc.isV x i) (hxl:sc.names.lookup x=some .local) (hcn:sc.isG cn) (hs':tb.sub.lookup cn=some (yes,no))
    (Hb:SS A B c y bv own₀ Z₀ s₀ (execs body env) xb) (Hh:∀a,SS (A.mark (some (.ref a))) B {c with hd:=true} y bv own₀ Z₀ s₀ (execs (h0::hs) env) xh) :
    SS1 A B c y bv own₀ Z₀ s₀ (exec (.Try body [.ExceptHandler (some (.Name cn p)) (some x) (h0::hs) hp] [] [] pos) env) (.try_ xb yes i xh):=by
  intro own Z s fr out h I S
  rw [exS_try] at h
  cases hhd:c.hd with
  | true=>rw [hhd] at h; exact nos h
  | false=>
  rw [hhd,if_neg Bool.false_ne_true] at h
  refine wpAny_Try_except ?_
  rcases hb:exSs c xb fr with _ | ⟨nm | k,fr₁⟩
  · rw [hb] at h; exact nos h
  · rw [hb,tryO_err] at h
    by_cases hy:yes.contains nm=true∧ ¬c.pin.contains i=true
    rotate_left
    · rw [if_neg hy] at h; exact nos h
    rw [if_pos hy] at h
    rcases hh:exSs {c with hd:=true} xh (fr₁.set i (.exc nm)) with _ | ⟨e | k,fr₂⟩
    · rw [hh] at h; exact nos h
    · rw [hh] at h; exact nos h
    rw [hh,tryH_ok] at h
    obtain rfl:=sos h
    refine wpAny_mono (Hb own Z s fr _ hb I S) (fun fl s' p=>?_) fun ev s₁ p=>?_
    · obtain ⟨_,_,_,q,_⟩:=p; cases q
    obtain ⟨nm',a,own₁,Z₁,q1,rfl,I₁,S₁,X⟩:=p
    cases q1
    dsimp only at I₁
    obtain ⟨outer,hfr⟩:=ok.top
    obtain ⟨l,hl',FF,hfs⟩:=frames_fun I₁ ok.en.stk
    rw [hfr] at hl'; cases hl'
    obtain ⟨V,hV,ask⟩:=R.gd.ask cn yes no hs'
    refine leave_exc hfr FF ok.en.frame X (fun b e=>⟨S₁.old b e,I₁.fresh e⟩) fun h₂ lv X₂=>?_
    have I₂:Inv B y own₁ Z₁ h₂ fr₁:=I₁.lv lv (fun b p=>p.2) hfs
    have S₂:Step y bv own Z s own₁ Z₁ {s₁ with heap:=h₂}:=S₁.lv I₁ lv (fun b p=>p) hfs
    have en':EnvOk (A.mark (some (.ref a))) sc env y:= {ok.en with stk:=ok.en.stk}
    refine wpAny_handleBy_cons (codeAny_handlers_test (load_cls (s:= {s₁ with heap:=h₂}) R.gd en' I₂ hcn hV ?_)) (by intro q; cases q)
    obtain ⟨pa,oe,vs,C,m,he,hc,hrest⟩:=id X₂
    have hmk:mg nm=some (.ref C):=(Ns_det R.gd.g hrest.2.1 nm).trans hrest.2.2.1
    refine ((ask nm C hmk).1 (List.contains_iff_mem.mp hy.1) prog w _ _ {s₁ with heap:=h₂} a oe I₂.base he ⟨hc.1,hc.2,vs,hrest.1⟩).1 _ ?_
    dsimp only
    refine codeAny_handlers_suite_as (land_exc (s:= {s₁ with heap:=h₂}) X₂ fun h₃ lv₃ X₃=>?_)
    have I₃:Inv B y own₁ Z₁ h₃ fr₁:=Inv.lv (s:= {s₁ with heap:=h₂}) I₂ lv₃ (fun b p=>p.2) fun J f=>f.elim
    have S₃:Step y bv own Z s own₁ Z₁ {s₁ with heap:=h₃}:=S₂.lv I₂ lv₃ (fun b p=>p) fun J f=>f.elim
    obtain ⟨pa,oe,vs,C,m,he,hc,hrest⟩:=X₃
    have I₄:=I₃.addZ pa.2.1 pa.2.2.1 he
    have S₄:=S₃.addZ pa.1
    obtain ⟨l,hl⟩:=ok.loc hx.1
    have hib:i∈bv:=ok.bvi hx.1 fun q=>hy.2 (List.contains_iff_mem.mpr q)
    refine store_put (s:= {s₁ with heap:=h₃}) en' hx.1 (ok.nf x i hx.1) hl I₄ fun h₅ tk PT=>?_
    have sv:SlotV h₅ (fun b=>Z₁ b∨b=a) (fun b=>own₁ b=some i) (.exc nm) (.ref a):=by
      obtain ⟨o,es,ep,ho,hd,hk,hf⟩:=id R.gd.g
      have zm:Z₁ mainGlobals∨mainGlobals=a:=.inl (I₁.zb _ o ho)
      refine ⟨a,oe,C,mg,rfl,.inr rfl,PT.keep a oe (fun q=>I₄.zl i l hl (.inr q.symm)) he,⟨hc.1,hc.2,vs,hrest.1⟩,zm,?_,(Ns_det R.gd.g hrest.2.1 nm).trans hrest.2.2.1⟩
      exact (R.gd.g.keeps I₄.base).at' fun o e=>PT.keep _ o (fun q=>I₄.zl i l hl (q▸zm)) e
    have I₅:Inv B y own₁ (fun b=>Z₁ b∨b=a) h₅ (fr₁.set i (.exc nm)):=(I₄.chg hl PT.keep PT.oth PT.ok PT.ns).setSl hl PT.rd sv
    have S₅:Step y bv own Z s own₁ (fun b=>Z₁ b∨b=a) {s₁ with heap:=h₅,toks:=tk}:=S₄.trans ((PT.step (s:= {s₁ with heap:=h₃}) hl I₄).sub fun j hj=>by rw [List.mem_singleton.mp hj]; exact hib)
    refine wpAny_mono (Hh a own₁ _ {s₁ with heap:=h₅,toks:=tk} _ _ hh I₅ (S.trans S₅)) (fun fl s₆ p=>?_) fun J U x=>x.elim
    obtain ⟨k',own₆,Z₆,q,I₆,S₆,r⟩:=p
    cases q
    dsimp only at I₆ ⊢
    have hkl:env.kindOf x=some .local:=(ok.kd x).trans hxl
    have hle:l = .dict env.locals x:=by
      rcases ok.en.var x i hx.1 with ⟨_,e⟩ | ⟨q | ⟨q,_⟩,_⟩
      · rw [hl] at e; exact Option.some.inj e
      · rw [hkl] at q; cases q
      · rw [hkl] at q; cases q
    subst hle
    obtain ⟨m₆,hn₆⟩:=I₆.ok i _ hl
    refine wpAny_nameGoes_keeps hkl hn₆ (by rw [ok.en.kind]; rfl) fun h₇ v hn₇ sb=>?_
    have kp:∀b o,b≠env.locals→s₆.heap.get? b=some o→h₇.get? b=some o:=fun b o q e=>sb.extBut b o q e
    have oth:∀j k w,j≠i→y.loc j=some k→rdL s₆.heap k w→rdL h₇ k w:=fun j k w hj hk r=>by
      by_cases q:k.addr=env.locals
      · obtain ⟨b,x',z,e1,e2,hxz⟩:=I₆.wf.apart j i k _ hk hl hj q
        cases e2
        subst e1
        obtain ⟨m',hm',e'⟩:=r
        refine ⟨_,hn₇,?_⟩
        show (if x'=x then v else m₆ x')=some w
        rw [if_neg hxz,← Ns_det hm' hn₆,e']
      · exact r.keeps fun o e=>kp _ o q e
    have okk:∀j k,y.loc j=some k→okL h₇ k:=fun j k hk=>by
      by_cases q:k.addr=env.locals
      · cases k with
        | dict b z=>cases q; exact ⟨_,hn₇⟩
        | cell b=>
          by_cases hij:j=i
          · subst hij; rw [hl] at hk; cases hk
          · obtain ⟨_,_,_,e1,_⟩:=I₆.wf.apart j i _ _ hk hl hij q; cases e1
      · exact (I₆.ok j k hk).keeps fun o e=>kp _ o q e
    have nsL:∃m,h₇.Ns y.L m:=by
      by_cases q:y.L=env.locals
      · exact ⟨_,q▸hn₇⟩
      · obtain ⟨m,hm⟩:=I₆.nsL; exact ⟨m,hm.sameBut sb q⟩
    have S67:Step y bv own₆ Z₆ s₆ own₆ Z₆ {s₆ with heap:=h₇,toks:=s₆.toks+1}:=by
      refine ⟨⟨_,_,rfl⟩,⟨fun b o e nw J=>kp b o (fun q=>nw (.inr (.inr ⟨i,_,hl,q.symm⟩))) e,fun b o e=>?_,fun b o f e=>⟨o.slots,kp b o (fun q=>I₆.wf.nf i _ hl (q▸f)) e⟩⟩,fun J z=>z,fun J z=>.inl z,fun J U e=>.inl e,fun j k w nb hk r=>oth j k w (fun q=>nb (q▸hib)) hk r⟩
      by_cases q:b=env.locals
      · subst q; obtain ⟨o',_,_,e',_⟩:=hn₇; exact ⟨o',e'⟩
      · exact ⟨o,kp b o q e⟩
    refine ⟨k,own₆,Z₆,rfl,I₆.chg hl kp oth okk nsL,(S₅.trans S₆).trans S67,?_⟩
    cases k with
    | next=>exact r
    | ret rv=>
      obtain ⟨v,rfl,r,d,hd⟩:=r
      exact ⟨v,rfl,S67.rv I₆ (fun j hj=>by rw [plVars_of hd] at hj; cases hj) r,d,hd⟩
  · rw [hb,tryO_ok] at h
    obtain rfl:=sos h
    refine wpAny_mono (Hb own Z s fr _ hb I S) (fun fl s' p=>?_) fun J U x=>x.elim
    obtain ⟨k',own',Z',q,I',S',r⟩:=p
    cases q
    cases k with
    | next=>cases r; exact wpAny_execs_nil ⟨.next,own',Z',rfl,I',S',rfl⟩
    | ret rv=>obtain ⟨v,rfl,r⟩:=r; exact ⟨.ret rv,own',Z',rfl,I',S',v,rfl,r⟩
end
end Mv
end
section
namespace Mv
open PySem PyProof.Rows
variable [Hp]
section
variable {A:Around} {B:Heap} {mg mb:Str→Option Value} {tb:Tb} {c:Cfg} {n:Nat} {env:Env} {sc:Sc} {y:Lay}
  {bv bv':List Nat} {own own₁ own₀ own':Addr→Option Nat} {Z Z₁ Z₀ Z':Addr→Prop} {s s₁ s₀ s':Shared} {fr fr₁:Fm}
theorem ss_no {st:Stmt} :SS1 A B c y bv own₀ Z₀ s₀ (exec st env) .no:=by
  intro own Z s fr out h I S
  exact nos h
set_option tactic.hygienic true in
theorem asgT_val {pin:List Nat} {is:List Nat} {r:Rv} {fr₂:Fm} (h:asgT pin fr (.tup is) r=some fr₂) :∃ds,rvV r=some (.tuple ds)∧asgs pin fr is ds=some fr₂:=by
  have h:(match rvV r with | some (.tuple ds)=>asgs pin fr is ds | _=>none)=some fr₂:=h
  split at h
  · rename_i ds hd; exact ⟨ds,hd,h⟩
  · exact nos h
theorem hd_tup {is:List Nat} {e:Ex} {out:Except Str Ctl×Fm} (h:exS c (.asg (.tup is) e) fr=some out) :c.hd=false∧bnd (k:=⟨fun r fr=>match asgT c.pin fr (.tup is) r with | some fr=>some (.ok .next,fr) | none=>none⟩) (ev c e fr)=some out:=by
  rw [exS_asg] at h
  cases hh:c.hd with
  | true=>rw [hh] at h; exact nos h
  | false=>rw [hh] at h; exact ⟨rfl,h⟩
set_option tactic.hygienic true in
theorem ss_asgT {es:List Expr} {is:List Nat} {k:Nat} {p pos:Pos} {value:Expr} {e:Ex} (R:Rn A B mg mb tb c n) (ok:FnOk A sc env y c bv own₀) (tg:TGs sc es is) (ce:CE tb sc value e) (hc:noComp value=true) (ht:noTup value=true) :
    SS1 A B c y bv own₀ Z₀ s₀ (exec (.Assign [.Tuple es k p] value pos) env) (.asg (.tup is) e):=by
  intro own Z s fr out h I S
  obtain ⟨hhd,h⟩:=hd_tup h
  refine Assign_Tuple (seqS ok.en ce ((sound_all R).1 sc _ _ ce env y ok.en).1 h I .refl fun r fr₂ own₂ Z₂ s₂ v e₁ h I₂ S₁ S₂ R₂=>?_) (show swapsWith value (some (.Tuple es k p)) pos.line env=pure false from swaps_plain ce hc) (swapped_no ce ht)
  split at h
  · rename_i fr₃ he
    cases h
    obtain ⟨ds,hd,hs⟩:=asgT_val he
    obtain ⟨Z₃,I₃,S₃,R₃⟩:=R₂.freeze I₂ S₁ hd
    refine tgt_asg (t:=.tup is) ok (R.hh hhd) (.tup (k:=k) (p:=p) tg) (d:=.tuple ds) hs I₃ R₃ fun s' J I' S'=>?_
    exact ⟨.next,own₂,Z₃,rfl,I',(S₃.sub fun J h=>by cases h).trans S',rfl⟩
  · exact nos h
end
end Mv
end
section
namespace Mv
open PySem PyProof.Rows
noncomputable def scOf (d:DefRec) (names:List Str) :Sc:=⟨d.scope.names,names.zipIdx,names.length⟩
structure FOk (tb:Tb) (d:DefRec) (fn:Fn) (names:List Str) :Prop where
  nd:names.Nodup
  np:fn.np≤names.length
  kinds:∀x∈names,d.scope.names.lookup x=some .local∨d.scope.names.lookup x=some .cell
  bind:∀vs:List Value,vs.length=fn.np→ ∀pm code doc,bindArgs (Calls.docDef d.name d.params d.body d.scope pm code doc) ⟨vs,[]⟩=pure ((names.take fn.np).zip vs)
  body:CSs tb (scOf d names) d.body fn.body
  co:d.scope.isCoroutine=false
  gen:d.scope.isGenerator=false
  kind:d.scope.kind = .function
  nofree:∀x∈d.scope.names,x.2≠ .free
variable [Hp]
section
variable {A:Around} {B:Heap} {mg mb:Str→Option Value} {tb:Tb} {c:Cfg} {n:Nat} {env:Env} {sc:Sc} {y:Lay}
  {bv bv':List Nat} {own own₁ own₀ own':Addr→Option Nat} {Z Z₁ Z₀ Z':Addr→Prop} {s s₁ s₀ s':Shared} {fr fr₁:Fm}
theorem Rn.mark (R:Rn A B mg mb tb c n) (a:Addr) :Rn (A.mark (some (.ref a))) B mg mb tb {c with hd:=true} n:=⟨R.gd,R.cs,R.dep,R.un,fun q=>by cases q⟩
theorem FnOk.mark (ok:FnOk A sc env y c bv own₀) (a:Addr) :FnOk (A.mark (some (.ref a))) sc env y {c with hd:=true} bv own₀:=⟨{ok.en with stk:=ok.en.stk},ok.nf,ok.bv,ok.pin,ok.ni,ok.kd,ok.top⟩
theorem ss_all:∀ {ss:List Stmt} {zs:List St},CSs tb sc ss zs→ ∀(A:Around) (c:Cfg) (R:Rn A B mg mb tb c n) (ok:FnOk A sc env y c bv own₀),SS A B c y bv own₀ Z₀ s₀ (execs ss env) zs:=by
  have H:=@CSs.rec tb sc (fun st z J=> ∀(A:Around) (c:Cfg) (R:Rn A B mg mb tb c n) (ok:FnOk A sc env y c bv own₀),SS1 A B c y bv own₀ Z₀ s₀ (exec st env) z)
    (fun ss zs J=> ∀(A:Around) (c:Cfg) (R:Rn A B mg mb tb c n) (ok:FnOk A sc env y c bv own₀),SS A B c y bv own₀ Z₀ s₀ (execs ss env) zs)
    (fun hx ce A c R ok=>ss_asg R ok hx ce) (fun hx ce ck A c R ok=>ss_setI R ok hx ce ck) (fun hx ce hp A c R ok=>ss_app R ok hx ce hp) (fun ce hc A c R ok=>ss_exp R ok ce hc) (fun ce J U ia ib A c R ok=>ss_iff R ok ce (ia A c R ok) (ib A c R ok)) (fun ce A c R ok=>ss_ret R ok ce) (fun A c R ok=>ss_retN)
    (fun tg hz hit J ib A c R ok=>ss_for R ok tg hz hit (ib A c R ok)) (fun hg hk A c R ok=>ss_raise R ok hg hk) (fun hx hl hcn hs J U ib ih A c R ok=>ss_try R ok hx hl hcn hs (ib A c R ok) fun a=>ih _ _ (R.mark a) (ok.mark a)) (fun A c R ok=>ss_pass) (fun tg ce hc ht A c R ok=>ss_asgT R ok tg ce hc ht) (fun A c R ok=>ss_no) (fun A c R ok=>ss_nil) (fun J U i1 i2 A c R ok=>ss_cons (i1 A c R ok) (i2 A c R ok))
  intro ss zs h; exact H h
end
theorem bindL_skip {k:Str→Option NameKind} :∀(bs:List (Str×Value)) (m:Str→Option Value) (x:Str),x∉bs.map (·.1)→bindL k bs m x=m x
  | [],_,_,_=>rfl
  | (n,v)::r,m,x,h=>by
    simp only [List.map_cons,List.mem_cons,not_or] at h
    unfold bindL
    rw [bindL_skip r _ x h.2]
    split
    · exact if_neg h.1
    · rfl
theorem bindL_get {k:Str→Option NameKind} :∀(bs:List (Str×Value)) (m:Str→Option Value) (i:Nat) (x:Str) (v:Value),(bs.map (·.1)).Nodup→bs[i]? = some (x,v)→k x=some .local→bindL k bs m x=some v
  | [],_,_,_,_,_,h,_=>by simp at h
  | (n,u)::r,m,0,x,v,hn,h,hk=>by
    simp at h
    obtain ⟨rfl,rfl⟩:=h
    unfold bindL
    rw [bindL_skip r _ n (List.nodup_cons.mp hn).1,if_pos hk]
    simp
  | (n,u)::r,m,i+1,x,v,hn,h,hk=>by
    unfold bindL
    exact bindL_get r _ i x v (List.nodup_cons.mp hn).2 (by simpa using h) hk
theorem bindC_skip {k:Str→Option NameKind} :∀(bs:List (Str×Value)) (m:Str→Option Value) (x:Str),x∉bs.map (·.1)→bindC k bs m x=m x
  | [],_,_,_=>rfl
  | (n,v)::r,m,x,h=>by
    simp only [List.map_cons,List.mem_cons,not_or] at h
    unfold bindC
    rw [bindC_skip r _ x h.2]
    split
    · rfl
    · exact if_neg h.1
theorem bindC_get {k:Str→Option NameKind} :∀(bs:List (Str×Value)) (m:Str→Option Value) (i:Nat) (x:Str) (v:Value),(bs.map (·.1)).Nodup→bs[i]? = some (x,v)→k x≠some .local→bindC k bs m x=some v
  | [],_,_,_,_,_,h,_=>by simp at h
  | (n,u)::r,m,0,x,v,hn,h,hk=>by
    simp at h
    obtain ⟨rfl,rfl⟩:=h
    unfold bindC
    rw [bindC_skip r _ n (List.nodup_cons.mp hn).1,if_neg hk]
    simp
  | (n,u)::r,m,i+1,x,v,hn,h,hk=>by
    unfold bindC
    exact bindC_get r _ i x v (List.nodup_cons.mp hn).2 (by simpa using h) hk
theorem cellsFrom_acc:∀(names:List (Str×NameKind)) (n:Nat) (acc:List (Str×Addr)) (p:Str×Addr),p∈acc→p∈cellsFrom n names acc
  | [],_,_,_,h=>h
  | (nm,k)::r,n,acc,p,h=>by
    unfold cellsFrom
    split
    · exact cellsFrom_acc r _ _ p (List.mem_cons_of_mem _ h)
    · exact cellsFrom_acc r _ _ p h
theorem cellsFrom_mem:∀(names:List (Str×NameKind)) (n:Nat) (acc:List (Str×Addr)) (x:Str),(x,NameKind.cell)∈names→ ∃c,(x,c)∈cellsFrom n names acc
  | [],_,_,_,h=>by cases h
  | (nm,k)::r,n,acc,x,h=>by
    unfold cellsFrom
    rcases List.mem_cons.mp h with q | h
    · cases q
      rw [if_pos (by decide)]
      exact ⟨n,cellsFrom_acc r _ _ _ List.mem_cons_self⟩
    · split
      · exact cellsFrom_mem r _ _ x h
      · exact cellsFrom_mem r _ _ x h
theorem zipIdx_lookup:∀ {names:List Str} {x:Str} {i k:Nat},(names.zipIdx k).lookup x=some i→k≤i∧names[i - k]? = some x
  | [],_,_,_,h=>by cases h
  | a::l,x,i,k,h=>by
    rw [List.zipIdx_cons,List.lookup_cons] at h
    cases hx:x==a with
    | true=>
      rw [hx] at h; cases h
      simp only [beq_iff_eq] at hx
      subst hx
      exact ⟨Nat.le_refl _,by simp⟩
    | false=>
      rw [hx] at h
      obtain ⟨h1,h2⟩:=zipIdx_lookup h
      refine ⟨by exact (lin [k,i] [] 1 (.nle (.v 0) (.v 1)) [(1,.nle (.a (.v 0) (.c 1)) (.v 1))] rfl h1),?_⟩
      obtain ⟨m,rfl⟩ :∃m,i=k+1+m:=⟨i - (k+1),by exact (Nat.le_antisymm (lin [i,k,i - (k+(1:Nat))] [] 1 (.nle (.v 0) (.a (.a (.v 1) (.c 1)) (.v 2))) [(-1,.neq (.a (.v 2) (.a (.v 1) (.c 1))) (.v 0))] rfl (Nat.sub_add_cancel (n:=i) (m:=k+(1:Nat)) h1)) (lin [k,i - (k+(1:Nat)),i] [] 1 (.nle (.a (.a (.v 0) (.c 1)) (.v 1)) (.v 2)) [(1,.neq (.a (.v 1) (.a (.v 0) (.c 1))) (.v 2))] rfl (Nat.sub_add_cancel (n:=i) (m:=k+(1:Nat)) h1)))⟩
      rw [show k+1+m - k=m+1 from by exact (Nat.le_antisymm (lin [k+(1:Nat)+m - k,m,k] [] 1 (.nle (.v 0) (.a (.v 1) (.c 1))) [(1,.neq (.a (.v 0) (.v 2)) (.a (.a (.v 2) (.c 1)) (.v 1)))] rfl (Nat.sub_add_cancel (n:=k+(1:Nat)+m) (m:=k) (lin [k,m] [] 1 (.nle (.v 0) (.a (.a (.v 0) (.c 1)) (.v 1))) [(1,.nle (.a (.v 0) (.c 1)) (.a (.a (.v 0) (.c 1)) (.v 1)))] rfl h1))) (lin [m,k+(1:Nat)+m - k,k] [] 1 (.nle (.a (.v 0) (.c 1)) (.v 1)) [(-1,.neq (.a (.v 1) (.v 2)) (.a (.a (.v 2) (.c 1)) (.v 0)))] rfl (Nat.sub_add_cancel (n:=k+(1:Nat)+m) (m:=k) (lin [k,m] [] 1 (.nle (.v 0) (.a (.a (.v 0) (.c 1)) (.v 1))) [(1,.nle (.a (.v 0) (.c 1)) (.a (.a (.v 0) (.c 1)) (.v 1)))] rfl h1)))),List.getElem?_cons_succ]
      rw [show k+1+m - (k+1)=m from by exact (Nat.le_antisymm (lin [k+(1:Nat)+m - (k+(1:Nat)),m,k] [] 1 (.nle (.v 0) (.v 1)) [(1,.neq (.a (.v 0) (.a (.v 2) (.c 1))) (.a (.a (.v 2) (.c 1)) (.v 1)))] rfl (Nat.sub_add_cancel (n:=k+(1:Nat)+m) (m:=k+(1:Nat)) h1)) (lin [m,k+(1:Nat)+m - (k+(1:Nat)),k] [] 1 (.nle (.v 0) (.v 1)) [(-1,.neq (.a (.v 1) (.a (.v 2) (.c 1))) (.a (.a (.v 2) (.c 1)) (.v 0)))] rfl (Nat.sub_add_cancel (n:=k+(1:Nat)+m) (m:=k+(1:Nat)) h1)))] at h2
      exact h2
noncomputable def fnLoc (kindOf:Str→Option NameKind) (L:Addr) (cells:List (Str×Addr)) (names:List Str) (i:Nat) :Option Loc:=match names[i]? with
  | none=>none
  | some x=>if kindOf x=some .local then some (.dict L x) else (cells.lookup x).map .cell
set_option tactic.hygienic true in
theorem fnLoc_some {k:Str→Option NameKind} {L:Addr} {cells:List (Str×Addr)} {names:List Str} {i:Nat} {l:Loc} (h:fnLoc k L cells names i=some l) :
    ∃x,names[i]? = some x∧((k x=some .local∧l = .dict L x)∨(k x≠some .local∧ ∃c,cells.lookup x=some c∧l = .cell c)):=by
  unfold fnLoc at h
  split at h
  · cases h
  · rename_i x hx
    refine ⟨x,hx,?_⟩
    split at h
    · rename_i hk; cases h; exact .inl ⟨hk,rfl⟩
    · rename_i hk
      rw [Option.map_eq_some_iff] at h
      obtain ⟨c,hc,rfl⟩:=h
      exact .inr ⟨hk,c,hc,rfl⟩
noncomputable def clean (own:Addr→Option Nat) (pin:List Nat) (a:Addr) :Option Nat:=match own a with
  | some k=>if k∈pin then some k else none
  | none=>none
set_option tactic.hygienic true in
theorem clean_some {own:Addr→Option Nat} {pin:List Nat} {a:Addr} {k:Nat} (h:clean own pin a=some k) :own a=some k∧k∈pin:=by
  unfold clean at h
  split at h
  · rename_i j hj
    split at h
    · rename_i hp; cases h; exact ⟨hj,hp⟩
    · cases h
  · cases h
theorem clean_ne {own:Addr→Option Nat} {pin:List Nat} {a:Addr} (h:clean own pin a≠none) :own a≠none:=fun e=>h (by unfold clean; rw [e])
theorem pins_mem:∀ {args:List Slot} {k j:Nat} {sl:Slot},args[j]? = some sl→sl.lent=true→k+j∈pinsOf k args
  | [],_,_,_,h,_=>by simp at h
  | a::r,k,0,sl,h,hl=>by
    simp at h; subst h
    unfold pinsOf; rw [if_pos hl]; exact List.mem_cons_self
  | a::r,k,j+1,sl,h,hl=>by
    have:=pins_mem (k:=k+1) (j:=j) (args:=r) (by simpa using h) hl
    rw [show k+1+j=k+(j+1) from by exact (Nat.le_antisymm (lin [k,j] [] 1 (.nle (.a (.a (.v 0) (.c 1)) (.v 1)) (.a (.v 0) (.a (.v 1) (.c 1)))) [] rfl) (lin [k,j] [] 1 (.nle (.a (.v 0) (.a (.v 1) (.c 1))) (.a (.a (.v 0) (.c 1)) (.v 1))) [] rfl))] at this
    unfold pinsOf
    split
    · exact List.mem_cons_of_mem _ this
    · exact this
set_option tactic.hygienic true in
theorem outs_at {own':Addr→Option Nat} {Z':Addr→Prop} {h:Heap} :∀ {args:List Slot} {vs:List Value} {fr:Fm} {k:Nat},(∀(j:Nat) (sl o:Slot) (v:Value),args[j]? = some sl→sl.lent=true→vs[j]? = some v→fr[j]? = some o→o≠ .no→SlotV h Z' (fun a=>own' a=some (k+j)) o v)→OutsAt own' Z' h k args vs (outsOf args fr)
  | [],vs,fr,k,_=>by unfold OutsAt; trivial
  | a::r,[],fr,k,_=>by unfold OutsAt; trivial
  | a::r,v::vs,fr,k,H=>by
    have tl:∀(j:Nat) (sl o:Slot) (u:Value),r[j]? = some sl→sl.lent=true→vs[j]? = some u→fr.tail[j]? = some o→o≠ .no→SlotV h Z' (fun a=>own' a=some (k+1+j)) o u:=fun j sl o u e1 hl e2 e3 n=>by
      have:=H (j+1) sl o u (by simpa using e1) hl (by simpa using e2) (by
        cases fr with
        | nil=>simp at e3
        | cons x xs=>simpa using e3) n
      rwa [show k+(j+1)=k+1+j from by exact (Nat.le_antisymm (lin [k,j] [] 1 (.nle (.a (.v 0) (.a (.v 1) (.c 1))) (.a (.a (.v 0) (.c 1)) (.v 1))) [] rfl) (lin [k,j] [] 1 (.nle (.a (.a (.v 0) (.c 1)) (.v 1)) (.a (.v 0) (.a (.v 1) (.c 1)))) [] rfl))] at this
    have ih:=outs_at tl
    unfold OutsAt outsOf
    split
    · rename_i hl
      refine ⟨fr.headD .no,outsOf r fr.tail,rfl,fun n=>?_,ih⟩
      cases fr with
      | nil=>exact absurd rfl n
      | cons x xs=>exact H 0 a x v rfl hl rfl rfl n
    · exact ih
theorem nodup_get {l:List Str} {i j:Nat} (hn:l.Nodup) (hi:i<l.length) (h:l[i]? = l[j]?) :i=j:=by
  exact (List.getElem?_inj hi hn).mp h
theorem nlt {a b:Addr} (h:a<b) (k:b≤a) :False:=Nat.lt_irrefl _ (Nat.lt_of_lt_of_le h k)
set_option tactic.hygienic true in
theorem call_sound {B:Heap} {mg mb:Str→Option Value} {tb:Tb} {P:Pr} (gd:Gd B mg mb P.glob tb) (fok:∀(f:Nat) (fn:Fn) (d:DefRec),P.fns[f]? = some fn→tb.fn[f]? = some d→ ∃names,FOk tb d fn names) :
    ∀n,CallSpec B mg tb n (cF P n)
  | 0=>by intro hd f args res outs h; cases h
  | n+1=>by
    intro hd f args res outs h d hd' fa hfa A F own Z s vs hdep hun hhd fro G SA
    have ih:=call_sound gd fok n
    unfold cF at h
    split at h
    · cases h
    · rename_i fn hfn
      split at h
      · rename_i hlen
        obtain ⟨names,ok⟩:=fok f fn d hfn hd'
        obtain ⟨a,o,pm,code,doc,hm,ho,hdat,hcr⟩:=gd.fn f d hd'
        rw [hfa] at hm; cases hm
        have hvl:vs.length=fn.np:=by rw [← SA.1,hlen]
        have hroom:A.depth<recursionLimit:=by show A.depth<1000; exact (lin [A.2,n] [] 1 (.nle (.a (.v 0) (.c 1)) (.c 1000)) [(1,.nle (.a (.v 0) (.a (.v 1) (.c 1))) (.c 999))] rfl hdep)
        let fd:=Calls.docDef d.name d.params d.body d.scope pm code doc
        have hbn:((names.take fn.np).zip vs).map (·.1)=names.take fn.np:=List.map_fst_zip (by rw [List.length_take,hvl]; exact (Nat.min_le_left fn.np names.length))
        refine codeAny_call_cells (fd:=fd) (body:=d.body) hroom (G.base fa o ho) hdat (gd.nl.keeps G.base) (hcr.keeps G.base) rfl (ok.bind vs hvl pm code doc) rfl (fun x hx=>?_) (fun s₁ IC=>?_) ok.co ok.gen ok.kind
        · have hxn:x.1∈names:=by
            have:x.1∈((names.take fn.np).zip vs).map (·.1):=List.mem_map.mpr ⟨x,hx,rfl⟩
            rw [hbn] at this
            exact List.mem_of_mem_take this
          rcases ok.kinds x.1 hxn with q | q
          · exact .inl q
          · refine .inr ⟨q,?_⟩
            obtain ⟨c,hc⟩:=cellsFrom_mem d.scope.names (s.heap.objs.size+1) [] x.1 (mem_of_lookup q)
            obtain ⟨c',e,_⟩:=lookup_of_mem hc
            exact Option.isSome_iff_exists.mpr ⟨c',e⟩
        · generalize henv:callEnvC fd s.heap.objs.size fa=env at IC
          have eL:env.locals=s.heap.objs.size:=by rw [← henv]; rfl
          have eK:∀x,env.kindOf x=d.scope.names.lookup x:=fun x=>by rw [← henv]; rfl
          have eC:env.cells=cellsFrom (s.heap.objs.size+1) d.scope.names []:=by rw [← henv]; rfl
          let y:Lay:=⟨fnLoc env.kindOf env.locals env.cells names,env.locals,F⟩
          have up:∀b,(∃o,s.heap.get? b=some o)→b<env.locals:=fun b ⟨o,e⟩=>by rw [eL]; exact Heap.lt_size e
          have lg:∀i l,y.loc i=some l→env.locals≤l.addr:=fun i l hl=>by
            obtain ⟨x,_,⟨_,rfl⟩ | ⟨_,c,hc,rfl⟩⟩:=fnLoc_some hl
            · exact Nat.le_refl _
            · exact Nat.le_of_lt (IC.above x c (mem_of_lookup hc))
          have hi:∀i l,y.loc i=some l→i<names.length:=fun i l hl=>by
            obtain ⟨x,hx,_⟩:=fnLoc_some hl
            exact (List.getElem?_eq_some_iff.mp hx).1
          have locS:∀i x,names[i]? = some x→ ∃l,y.loc i=some l∧((env.kindOf x=some .local∧l = .dict env.locals x)∨(env.kindOf x=some .cell∧ ∃c,env.cells.lookup x=some c∧l = .cell c)):=fun i x hx=>by
            have hxm:x∈names:=List.mem_of_getElem? hx
            rcases ok.kinds x hxm with q | q
            · refine ⟨.dict env.locals x,?_,.inl ⟨by rw [eK]; exact q,rfl⟩⟩
              show fnLoc _ _ _ _ _=_
              unfold fnLoc; rw [hx]; dsimp only; rw [if_pos (by rw [eK]; exact q)]
            · obtain ⟨c,hc⟩:=cellsFrom_mem d.scope.names (s.heap.objs.size+1) [] x (mem_of_lookup q)
              obtain ⟨c',e,_⟩:=lookup_of_mem hc
              rw [← eC] at e
              refine ⟨.cell c',?_,.inr ⟨by rw [eK]; exact q,c',e,rfl⟩⟩
              show fnLoc _ _ _ _ _=_
              unfold fnLoc; rw [hx]; dsimp only; rw [if_neg (by rw [eK,q]; intro z; cases z),e]; rfl
          have en:EnvOk (A.deeper env) (scOf d names) env y:=by
            refine ⟨?_,hi,by rw [← henv]; exact ok.kind,by rw [← henv]; rfl,by rw [← henv]; rfl,(by show env.frame=some env.locals; rw [eL,← henv]; rfl),fun x i hx=>?_,fun x hx=>by rw [eK]; exact hx,fun x hx=>by rw [eK]; exact hx⟩
            · obtain ⟨l,hl,hk⟩:=fro
              refine ⟨_,Around.frames_deeper hl,fun e he=>?_⟩
              rcases List.mem_cons.mp he with he | he
              · rw [he]
                exact ⟨(by rw [← henv]; show d.scope.kind≠ .module; rw [ok.kind]; intro q; cases q),_,(by show _=some env.locals; rw [eL,← henv]; rfl),.inr rfl⟩
              · obtain ⟨h1,L,h2,h3⟩:=hk e he; exact ⟨h1,L,h2,.inl h3⟩
            obtain ⟨_,hx⟩:=zipIdx_lookup hx
            rw [Nat.sub_zero] at hx
            obtain ⟨l,hl,⟨hk,rfl⟩ | ⟨hk,c,hc,rfl⟩⟩:=locS i x hx
            · exact .inl ⟨hk,hl⟩
            · exact .inr ⟨.inl hk,c,hc,hl⟩
          let pin:=pinsOf 0 args
          let own₀:=clean own pin
          let bv:=(List.range names.length).filter fun i=>decide (i∉pin)
          have fnok:FnOk (A.deeper env) (scOf d names) env y ⟨P.glob,cF P n,pin,hd⟩ bv own₀:=by
            refine ⟨en,fun x i hx=>?_,fun i hp hlt=>List.mem_filter.mpr ⟨List.mem_range.mpr hlt,by simpa using hp⟩,fun a i q=>(clean_some q).2,?_,fun x=>eK x,let ⟨l,hl,_⟩:=fro; ⟨l,Around.frames_deeper hl⟩⟩
            · obtain ⟨_,hx⟩:=zipIdx_lookup hx
              rw [eK]
              rcases ok.kinds x (List.mem_of_getElem? hx) with q | q <;> (rw [q]; intro z; cases z)
            · unfold interactive; rw [← henv]; show (d.scope.kind == .module&&_)=false; rw [ok.kind]; rfl
          have Rn':Rn (A.deeper env) B mg mb tb ⟨P.glob,cF P n,pin,hd⟩ n:=⟨gd,ih,by show A.depth+1+n≤999; exact (lin [A.2,n] [] 1 (.nle (.a (.a (.v 0) (.c 1)) (.v 1)) (.c 999)) [(1,.nle (.a (.v 0) (.a (.v 1) (.c 1))) (.c 999))] rfl hdep),by show A.units+3+4*n≤4000; exact (lin [A.5,n] [] 1 (.nle (.a (.a (.v 0) (.c 3)) (.m 4 (.v 1))) (.c 4000)) [(1,.nle (.a (.v 0) (.m 4 (.a (.v 1) (.c 1)))) (.c 4000))] rfl hun),fun q=>hhd q⟩
          have kp:=IC.toInCall.keep
          have nb:((names.take fn.np).zip vs |>.map (·.1)).Nodup:=by rw [hbn]; exact ok.nd.sublist (List.take_sublist _ _)
          -- where the arguments lie
          have argRd:∀(i:Nat) (v:Value),vs[i]? = some v→ ∃l,y.loc i=some l∧rdL s₁.heap l v:=fun i v hv=>by
            have hil:i<fn.np:=by rw [← hvl]; exact (List.getElem?_eq_some_iff.mp hv).1
            have hin:i<names.length:=Nat.lt_of_lt_of_le hil ok.np
            obtain ⟨l,hl,hc⟩:=locS i _ (List.getElem?_eq_getElem hin)
            have hz:((names.take fn.np).zip vs)[i]? = some (names[i],v):=by
              rw [List.getElem?_zip_eq_some]
              exact ⟨by rw [List.getElem?_take]; simp [hil,hin],hv⟩
            refine ⟨l,hl,?_⟩
            rcases hc with ⟨hk,rfl⟩ | ⟨hk,c,hc,rfl⟩
            · exact ⟨_,IC.toInCall.ns,bindL_get _ _ i _ v nb hz hk⟩
            · have:=IC.cell _ c hc
              rw [bindC_get _ _ i _ v nb hz (by rw [hk]; intro z; cases z)] at this
              exact this
          have I₁:Inv B y own₀ Z s₁.heap (args++List.replicate (fn.nv - fn.np) .no):=by
            refine ⟨⟨fun i j l k hl hk hne hq=>?_,fun i l hl f=>?_,fun f=>?_,fun i c hl q=>?_⟩,fun b o e=>kp b o (G.base b o e),G.zb,fun b z=>?_,fun i l hl z=>?_,fun i l hl=>?_,fun z=>?_,?_,G.zF,fun b q=>G.oF b (clean_ne q),fun b z=>?_,fun b q=>?_,fun b f=>?_,fun i l hl=>?_,⟨_,IC.toInCall.ns⟩,fun i sl e n=>?_⟩
            · obtain ⟨x,hx,h1⟩:=fnLoc_some hl
              obtain ⟨z,hz,h2⟩:=fnLoc_some hk
              have hxz:x≠z:=fun q=>hne (by
                exact (nodup_get ok.nd (List.getElem?_eq_some_iff.mp hx).1 (by rw [hx,hz,q])))
              rcases h1 with ⟨_,rfl⟩ | ⟨_,c,hc,rfl⟩ <;> rcases h2 with ⟨_,rfl⟩ | ⟨_,c',hc',rfl⟩
              · exact ⟨_,x,z,rfl,rfl,hxz⟩
              · have:=IC.above z c' (mem_of_lookup hc')
                have q:env.locals=c':=hq
                exact (nlt this (Nat.le_of_eq q.symm)).elim
              · have:=IC.above x c (mem_of_lookup hc)
                have q:c=env.locals:=hq
                exact (nlt this (Nat.le_of_eq q)).elim
              · have q:c=c':=hq
                subst q
                exact absurd (name_of_addr IC.apart (mem_of_lookup hc) (mem_of_lookup hc')) hxz
            · obtain ⟨o,e,_⟩:=G.flv _ f; exact nlt (up _ ⟨o,e⟩) (lg i l hl)
            · obtain ⟨o,e,_⟩:=G.flv _ f; exact Nat.lt_irrefl _ (up _ ⟨o,e⟩)
            · obtain ⟨x,hx,⟨_,q'⟩ | ⟨_,c',hc,q'⟩⟩:=fnLoc_some hl
              · cases q'
              · cases q'
                have:=IC.above x c (mem_of_lookup hc)
                have q:c=env.locals:=q
                exact nlt this (Nat.le_of_eq q)
            · cases q:clean own pin b with
              | none=>exact q
              | some k=>exact absurd (clean_some q).1 (by rw [G.zo b z]; intro z; cases z)
            · exact nlt (up _ (G.zlv _ z)) (lg i l hl)
            · cases q:own₀ l.addr with
              | none=>rfl
              | some k=>exact (nlt (up _ (G.olv _ (by rw [(clean_some q).1]; exact fun z=>by cases z))) (lg i l hl)).elim
            · exact Nat.lt_irrefl _ (up _ (G.zlv _ z))
            · show own₀ env.locals=none
              cases q:own₀ env.locals with
              | none=>rfl
              | some k=>exact absurd (up _ (G.olv _ (by rw [(clean_some q).1]; exact fun z=>by cases z))) (Nat.lt_irrefl _)
            · obtain ⟨o,e⟩:=G.zlv b z; exact ⟨o,kp b o e⟩
            · obtain ⟨o,e⟩:=G.olv b (clean_ne q); exact ⟨o,kp b o e⟩
            · obtain ⟨o,e,nr⟩:=G.flv b f; exact ⟨o,kp b o e,nr⟩
            · obtain ⟨x,hx,⟨_,rfl⟩ | ⟨_,c,hc,rfl⟩⟩:=fnLoc_some hl
              · exact ⟨_,IC.toInCall.ns⟩
              · exact ⟨_,IC.cell x c hc⟩
            · rw [List.getElem?_append] at e
              split at e
              · rename_i hlt
                have hv:i<vs.length:=by rw [← SA.1]; exact hlt
                obtain ⟨_,sv⟩:=SA.2 i sl vs[i] e (List.getElem?_eq_getElem hv)
                obtain ⟨l,hl,hr⟩:=argRd i _ (List.getElem?_eq_getElem hv)
                refine ⟨l,_,hl,hr,?_⟩
                cases sl with
                | no=>exact absurd rfl n
                | fz dd=>exact Rep.mono (fun b o J=>kp b o) (fun J z=>z) sv
                | own dd=>
                  obtain ⟨b,hb,ob,W⟩:=sv
                  refine ⟨b,hb,?_,W.mono (fun b o J=>kp b o) (fun J z=>z) fun o=>kp b o⟩
                  show clean own pin b=some i
                  have ob':own b=some i:=ob
                  have hp:i∈pin:=by have:=pins_mem (k:=0) e rfl; rwa [Nat.zero_add] at this
                  unfold clean; rw [ob']; dsimp only; rw [if_pos hp]
                | exc _=>exact SlotV.mono (sl:=.exc _) (O:=fun J=>False) (fun b o J=>kp b o) (fun J z=>z) (fun J f=>f.elim) (fun J U f=>f.elim) sv
              · rw [List.getElem?_replicate] at e
                split at e
                · cases e; exact absurd rfl n
                · cases e
          -- back
          have back:∀(own':Addr→Option Nat) (Z':Addr→Prop) (fr':Fm) (s':Shared),Inv B y own' Z' s'.heap fr'→Step y bv own₀ Z s₁ own' Z' s'→Gh B F own' Z' s'.heap∧GStep F own Z s own' Z' s'∧OutsAt own' Z' s'.heap 0 args vs (outsOf args fr'):=fun own' Z' fr' s' I' S'=>by
            have nwr:∀b o,s.heap.get? b=some o→own b=none→ ¬y.wr own₀ b:=fun b o e q w=>by
              rcases w with w | w | ⟨i,l,hl,w⟩
              · exact clean_ne w q
              · exact nlt (up b ⟨o,e⟩) (Nat.le_of_eq (Eq.symm w))
              · exact nlt (up b ⟨o,e⟩) (w▸lg i l hl)
            obtain ⟨h1,tk1,e1⟩:=IC.toInCall.same
            refine ⟨⟨I'.base,I'.zb,I'.zo,I'.zF,I'.oF,I'.zlv,I'.olv,I'.flv⟩,⟨?_,⟨fun b o e nw nf=>?_,fun b o e=>S'.ext.live b o (kp b o e),fun b o f e=>S'.ext.fram b o f (kp b o e)⟩,S'.zm,fun b z=>?_,fun b i q=>?_⟩,outs_at fun j sl o v ej hl ev ef n=>?_⟩
            · obtain ⟨h2,tk2,e2⟩:=S'.sh; exact ⟨h2,tk2,by rw [e2,e1]⟩
            · refine S'.ext.keep b o (kp b o e) (nwr b o e ?_) nf
              cases q:own b with
              | none=>rfl
              | some z=>exact absurd (by rw [q]; exact fun z=>by cases z) nw
            · rcases S'.zn b z with z | z | z
              · exact .inl z
              · exact .inr (.inl (clean_ne z))
              · refine .inr (.inr ?_)
                cases q:s.heap.get? b with
                | none=>rfl
                | some o=>rw [kp b o q] at z; cases z
            · rcases S'.on b i q with q | q
              · exact .inl (clean_some q).1
              · refine .inr ?_
                cases z:s.heap.get? b with
                | none=>rfl
                | some o=>rw [kp b o z] at q; cases q
            · obtain ⟨l,hl',hr⟩:=argRd j v ev
              have hp:j∈pin:=by have:=pins_mem (k:=0) ej hl; rwa [Nat.zero_add] at this
              have hr':=S'.bind j l v (fun q=>by have:=(List.mem_filter.mp q).2; simp [hp] at this) hl' hr
              obtain ⟨l2,v2,hl2,hr2,sv⟩:=I'.at' j o ef n
              rw [hl'] at hl2; cases hl2
              obtain rfl:=hr'.det hr2
              rw [Nat.zero_add]; exact sv
          have fresh:∀b,s₁.heap.get? b=none→s.heap.get? b=none:=fun b e0=>by
            cases z:s.heap.get? b with
            | none=>rfl
            | some o=>rw [kp b o z] at e0; cases e0
          have unown:∀(own':Addr→Option Nat) b, ¬y.wr own' b→own' b=none:=fun own' b nw=>by
            cases q:own' b with
            | none=>rfl
            | some z=>exact absurd (.inl (by rw [q]; exact fun z=>by cases z)) nw
          -- the run
          have run:=fun out h=>ss_all (Z₀:=Z) (s₀:=s₁) ok.body _ _ Rn' fnok own₀ Z s₁ _ out h I₁ .refl
          split at h
          · cases h
          · rename_i e fr' hex
            cases h
            refine wpAny_mono (run _ hex) (fun fl s' p=>?_) fun e s' p=>?_
            · obtain ⟨_,_,_,q,_⟩:=p; cases q
            obtain ⟨nm,a,own',Z',q,rfl,I',S',X⟩:=p
            cases q
            dsimp only at I'
            obtain ⟨outer,hfr⟩:=fnok.top
            obtain ⟨l,hl',FF,hfs⟩:=frames_fun I' en.stk
            rw [hfr] at hl'; cases hl'
            unfold leaving
            refine wpAny_bind (leave_exc hfr FF en.frame X (fun b e=>⟨S'.old b e,I'.fresh e⟩) fun h₂ lv X₂=>?_)
            have I₂:Inv B y own' Z' h₂ fr':=I'.lv lv (fun b p=>p.2) hfs
            have S₂:Step y bv own₀ Z s₁ own' Z' {s' with heap:=h₂}:=S'.lv I' lv (fun b p=>p) hfs
            obtain ⟨g,gs,os⟩:=back own' Z' fr' {s' with heap:=h₂} I₂ S₂
            exact ⟨own',Z',g,gs,os,.inr ⟨_,a,rfl,rfl,X₂.is.mono fun b J U h=>⟨fresh b h.1,unown own' b h.2.1,h.2.2.1,h.2.2.2⟩⟩⟩
          · rename_i fr' hex
            cases h
            refine wpAny_mono (run _ hex) (fun fl s' p=>?_) fun J U x=>x.elim
            obtain ⟨k',own',Z',q,I',S',r⟩:=p
            cases q
            obtain ⟨g,gs,os⟩:=back own' Z' _ _ I' S'
            cases r
            exact ⟨own',Z',g,gs,os,.inl ⟨_,_,rfl,rfl,.none⟩⟩
          · rename_i rv fr' hex
            cases h
            refine wpAny_mono (run _ hex) (fun fl s' p=>?_) fun J U x=>x.elim
            obtain ⟨k',own',Z',q,I',S',r⟩:=p
            cases q
            obtain ⟨g,gs,os⟩:=back own' Z' _ _ I' S'
            obtain ⟨v,rfl,r,dd,hdd⟩:=r
            refine ⟨own',Z',g,gs,os,.inl ⟨_,v,rfl,rfl,?_⟩⟩
            cases rv with
            | fz d=>exact r
            | own d=>
              obtain ⟨b,rfl,e0,nw,nf,nz,W⟩:=r
              exact ⟨b,rfl,fresh b e0,unown own' b nw,nf,nz,W⟩
            | pl p=>cases hdd
      · cases h
end Mv
end
section
namespace Mv
open PySem PyProof.Rows
noncomputable def isGB (sc:Sc) (x:Str) :Bool:=decide (sc.names.lookup x = some .globalImplicit) && !(x == ("__debug__" :Str))
noncomputable def isVB (sc:Sc) (x:Str) (i:Nat) :Bool:=decide (sc.vars.lookup x = some i) && !(x == ("__debug__" :Str))
theorem isGB_ok {sc:Sc} {x:Str} (h:isGB sc x=true) :sc.isG x:=by
  simp only [isGB,Bool.and_eq_true,decide_eq_true_eq,Bool.not_eq_true'] at h; exact h
theorem isVB_ok {sc:Sc} {x:Str} {i:Nat} (h:isVB sc x i=true) :sc.isV x i:=by
  simp only [isVB,Bool.and_eq_true,decide_eq_true_eq,Bool.not_eq_true'] at h; exact h
noncomputable def constB:Const→D→Bool
  | .none,.none=>true
  | .bool a,.bool b=>a==b
  | .int a,.int b=>a==b
  | .str a,.str b=>decide (a=b)&&PyData.strOk a&&decide (a.cps.size≤Sz)
  | _,_=>false
theorem constB_ok {k:Const} {d:D} (h:constB k d=true) :ConstIs k d:=by
  cases k <;> first | exact Bool.noConfusion h | (cases d <;> first | exact Bool.noConfusion h | exact .none | (obtain rfl:=eq_of_beq h; first | exact .bool _ | exact .int _) | skip)
  have h:=Bool.and_eq_true_iff.mp h
  obtain rfl:=of_decide_eq_true (Bool.and_eq_true_iff.mp h.1).1
  exact .str _ (Bool.and_eq_true_iff.mp h.1).2 (of_decide_eq_true h.2)
noncomputable def apartB (x:Ex) (bv:List Nat) :Bool:=(plX x).all fun i=>!bv.contains i
theorem apartB_ok {x:Ex} {bv:List Nat} (h:apartB x bv=true) :Apart x bv:=fun i hi hb=>by
  simp only [apartB,List.all_eq_true] at h
  have:=h i hi
  simp [hb] at this
noncomputable def compB_ (scope:Scope) (sc:Sc) (vs:List Str) :Bool:=
  decide (scope.kind = .function)&&(scope.names.all fun x=>decide (x.2 = .local→scope.names.lookup x.1=some .local))&&(scope.names.all fun x=>decide (x.2≠ .cell))&&(vs.all fun v=>decide (scope.names.lookup v=some .local))&&decide vs.Nodup &&
  (scope.names.all fun x=>decide (x.2 = .free→scope.names.lookup x.1 = some .free∧(x.1 == ("__classdict__" :Str)) = false∧(sc.vars.lookup x.1).isSome = true∧(sc.names.lookup x.1 = some .cell∨sc.names.lookup x.1 = some .free))) &&
  decide (((scope.names.filter fun x=>x.2 == .free).map (·.1)).Nodup)
theorem compB__ok {scope:Scope} {sc:Sc} {vs:List Str} (h:compB_ scope sc vs=true) :CompOk scope sc vs:=by
  simp only [compB_,Bool.and_eq_true,decide_eq_true_eq,List.all_eq_true] at h
  obtain ⟨⟨⟨⟨⟨⟨h1,h2⟩,h3⟩,h4⟩,h4'⟩,h5⟩,h6⟩:=h
  exact ⟨h1,h2,h3,h4,h4',fun x hx hf=>let ⟨a,b,c,d⟩:=h5 x hx hf; ⟨a,b,Option.isSome_iff_exists.mp c,d⟩,h6⟩
structure Ck (p:Prop) where
  val:Bool
  ok:val=true→p
namespace Ck
variable {p q:Prop}
noncomputable def no:Ck p:=⟨false,fun h=>nomatch h⟩
noncomputable def dec (p:Prop) [Decidable p] :Ck p:=⟨decide p,of_decide_eq_true⟩
noncomputable def ofB {b:Bool} (h:b=true→p) :Ck p:=⟨b,h⟩
theorem and_ok {a b:Bool} (h:(a&&b)=true) :a=true∧b=true:=by cases a <;> cases b <;> first | exact ⟨rfl,rfl⟩ | cases h
noncomputable def and (a:Ck p) (b:Ck q) :Ck (p∧q):=⟨a.val&&b.val,fun h=>⟨a.ok (and_ok h).1,b.ok (and_ok h).2⟩⟩
noncomputable def map (a:Ck p) (f:p→q) :Ck q:=⟨a.val,fun h=>f (a.ok h)⟩
end Ck
noncomputable def ckV (sc:Sc) (x:Str) (i:Nat) :Ck (sc.isV x i):=.ofB isVB_ok
noncomputable def ckG (sc:Sc) (x:Str) :Ck (sc.isG x):=.ofB isGB_ok
noncomputable def ckA (x:Ex) (bv:List Nat) :Ck (Apart x bv):=.ofB apartB_ok
noncomputable def ckN (x:Ex) (conds:List Ex) (l:List Nat) :Ck (∀j∈l,j∉bvE x∧j∉bvEs conds):=.dec _
noncomputable def zipB (it:Itk) (t:Tgt) :Bool:=match it with
  | .zip=>t.isTup
  | _=>true
theorem zipB_ok {it:Itk} {t:Tgt} (h:zipB it t=true) (e:it = .zip) :t.isTup=true:=by subst e; exact h
noncomputable def ckZ (it:Itk) (t:Tgt) :Ck (it = .zip→t.isTup=true):=.ofB zipB_ok
structure CGR (g:Expr) (t:Tgt) where
  vs:List Str
  i:Nat
  ck:Ck (CG i g vs t)
noncomputable def ckCG (g:Expr) (t:Tgt) :CGR g t:=match t with
  | .one i=>(match g with
    | .Name v _=>⟨[v],i,⟨true,fun J=>.one⟩⟩
    | _=>⟨[],0,.no⟩)
  | .tup [i,j]=>(match g with
    | .Tuple [.Name a _,.Name b _] _ _=>⟨[a,b],i,(Ck.dec (j=i+1)).map fun h=>h▸ .two⟩
    | _=>⟨[],0,.no⟩)
  | _=>⟨[],0,.no⟩
section
variable {tb:Tb} {sc:Sc}
theorem k_op2 {a b:Expr} {op:Operator} {pos:Pos} {o:Op2} {x y:Ex} (h:op=opOf o∧CE tb sc a x∧CE tb sc b y∧Apart x (bvE y)) :CE tb sc (.BinOp a op b pos) (.op2 o x y):=by
  obtain ⟨rfl,a,b,c⟩:=h; exact .op2 a b c
theorem k_cmp {a b:Expr} {op:CmpOp} {pos:Pos} {o:Cm} {x y:Ex} (h:op=cmOp o∧CE tb sc a x∧CE tb sc b y∧Apart x (bvE y)) :CE tb sc (.Compare a [op] [b] pos) (.cmp o x y):=by
  obtain ⟨rfl,a,b,c⟩:=h; exact .cmp a b c
noncomputable def fnIs (tb:Tb) (f:Nat) (v:Str) :Bool:=match tb.fn[f]? with
  | some d=>decide (d.name=v)
  | none=>false
theorem fnIs_ok {f:Nat} {v:Str} (h:fnIs tb f v=true) :∃d,tb.fn[f]? = some d∧d.name=v:=by
  unfold fnIs at h
  cases q:tb.fn[f]? with
  | none=>rw [q] at h; cases h
  | some d=>rw [q] at h; exact ⟨d,rfl,of_decide_eq_true h⟩
theorem k_call {f:Nat} {v:Str} {p pos:Pos} {args:List Expr} {xs:List Ex} (h:(∃d,tb.fn[f]? = some d∧d.name=v)∧sc.isG v∧CEs tb sc args xs∧args.length≤29) :CE tb sc (.Call (.Name v p) args [] pos) (.call f xs):=by
  obtain ⟨⟨d,hd,rfl⟩,a,b,c⟩:=h; exact .call hd a b c
theorem k_bi1 {b:Bi} {v:Str} {p pos:Pos} {a:Expr} {x:Ex} (h:b.one=true∧v=biName b∧sc.isG v∧CE tb sc a x) :CE tb sc (.Call (.Name v p) [a] [] pos) (.bi b [x]):=by
  obtain ⟨a,rfl,b,c⟩:=h; exact .bi1 a b c
theorem k_isi {t:Ty} {v u:Str} {p p' pos:Pos} {a:Expr} {x:Ex} (h:v = ("isinstance" :Str)∧u = (tyName t:Str)∧sc.isG v∧sc.isG u∧CE tb sc a x) :CE tb sc (.Call (.Name v p) [a,.Name u p'] [] pos) (.bi (.isi t) [x]):=by
  obtain ⟨rfl,rfl,a,b,c⟩:=h; exact .isi a b c
theorem k_isx {v x cn:Str} {p p1 p2 pos:Pos} {i:Nat} {yes no:List Str} (h:v = ("isinstance" :Str)∧sc.isG v∧sc.isV x i∧sc.isG cn∧tb.sub.lookup cn = some (yes,no)) :CE tb sc (.Call (.Name v p) [.Name x p1,.Name cn p2] [] pos) (.isx i yes no):=by
  obtain ⟨rfl,a,b,c,d⟩:=h; exact .isx a b c d
noncomputable def nsOf:List Expr→Option (List Str)
  | []=>some []
  | .Name x _::es=>(nsOf es).map (x :: ·)
  | _=>none
noncomputable def ckNS (sc:Sc) :(es:List Expr)→(xs:List Str)→Ck (NS sc es xs)
  | [],[]=>⟨true,fun J=>.nil⟩
  | .Name x _::es,x'::xs=>((Ck.dec (x=x')).and ((ckG sc x).and (ckNS sc es xs))).map fun h=>h.1▸ .cons h.2.1 h.2.2
  | _,_=>.no
noncomputable def ckKS:(es:List (Option Expr))→(xs:List Str)→Ck (KS es xs)
  | [],[]=>⟨true,fun J=>.nil⟩
  | some (.Constant (.str k) _ _)::es,k'::ks=>((Ck.dec (k=k')).and (ckKS es ks)).map fun h=>h.1▸ .cons h.2
  | _,_=>.no
theorem k_isxt {v x:Str} {cs:List Str} {es:List Expr} {p p1 p2 pos:Pos} {k i:Nat} {yes no:List Str} (h:v = ("isinstance" :Str)∧sc.isG v∧sc.isV x i∧NS sc es cs∧cs.length≤1000∧tb.sbt.lookup cs = some (yes,no)) :CE tb sc (.Call (.Name v p) [.Name x p1,.Tuple es k p2] [] pos) (.isx i yes no):=by
  obtain ⟨rfl,a,b,c,d,e⟩:=h; exact .isxt a b c d e
theorem k_count {m:Str} {apos pos:Pos} {a k:Expr} (h:m = ("count" :Str)∧baseB a = true∧baseB k = true∧(apos.endLine == pos.line) = true) :BX sc (.Call (.Attribute a m apos) [k] [] pos) .count [a,k]:=by
  obtain ⟨rfl,a,b,c⟩:=h; exact .count a b c
noncomputable def kokB (ks:List Str) :Bool:=ks.all fun k=>PyData.strOk k&&decide (k.cps.size≤Sz)
theorem kokB_ok {ks:List Str} (h:kokB ks=true) :KOk ks:=fun k hk=>by
  have:=Bool.and_eq_true_iff.mp (List.all_eq_true.mp h k hk)
  exact ⟨this.1,of_decide_eq_true this.2⟩
structure CkB (sc:Sc) (e:Expr) (b:Bi) where
  es:List Expr
  ck:Ck (BX sc e b es)
noncomputable def chkB (sc:Sc) (e:Expr) (b:Bi) :CkB sc e b:=match b with
  | .count=>(match e with
    | .Call (.Attribute a m apos) [k] [] pos=>⟨[a,k],(Ck.dec (m = ("count" :Str)∧baseB a = true∧baseB k = true∧(apos.endLine == pos.line) = true)).map k_count⟩
    | _=>⟨[],.no⟩)
  | .disp ks=>(match e with
    | .Dict kes es _=>⟨es,((ckKS kes ks).and ((Ck.dec (ks.Nodup∧(ks≠ []∧ks.length≤15)∧ks.length=es.length)).and (Ck.ofB (kokB_ok (ks:=ks))))).map fun h=>.disp h.1 h.2.1.1 h.2.1.2.1 h.2.2 h.2.1.2.2⟩
    | _=>⟨[],.no⟩)
  | _=>⟨[],.no⟩
noncomputable def Ck.or {p:Prop} (a b:Ck p) :Ck p:=⟨a.val||b.val,fun h=>(Bool.or_eq_true_iff.mp h).elim a.ok b.ok⟩
theorem k_zip {v:Str} {p pos:Pos} {e1 e2:Expr} {x1 x2:Ex} (h:v = ("zip" :Str)∧sc.isG v∧CEs tb sc [e1,e2] [x1,x2]) :IT tb sc (.Call (.Name v p) [e1,e2] [] pos) .zip [x1,x2]:=by
  obtain ⟨rfl,a,b⟩:=h; exact .zip a b
theorem k_range {v:Str} {p pos:Pos} {e:Expr} {x:Ex} (h:v = ("range" :Str)∧sc.isG v∧CE tb sc e x) :IT tb sc (.Call (.Name v p) [e] [] pos) .range [x]:=by
  obtain ⟨rfl,a,b⟩:=h; exact .range a b
end
mutual
noncomputable def chkE (tb:Tb) :Nat→(sc:Sc)→(x:Ex)→(e:Expr)→Ck (CE tb sc e x)
  | 0,_,_,_=>.no
  | n+1,sc,x,e=>match x with
    | .lit d=>(match e with
      | .Constant k _ _=>.ofB fun h=>.lit (constB_ok (k:=k) (d:=d) h)
      | _=>.no)
    | .var i=>(match e with
      | .Name v _=>(ckV sc v i).map .var
      | _=>.no)
    | .pl (.var i)=>(match e with
      | .Name v _=>(ckV sc v i).map .pl
      | _=>.no)
    | .gl k=>(match e with
      | .Name v _=>((ckG sc v).and (.dec (tb.gl[k]? = some v))).map fun h=>.gl h.1 h.2
      | _=>.no)
    | .tup xs=>(match e with
      | .Tuple es _ _=>((chkEs tb n sc xs es).and (.dec (xs.length≤1000))).map fun h=>.tup h.1 h.2
      | _=>.no)
    | .list xs=>(match e with
      | .List es _=>((chkEs tb n sc xs es).and (.dec (xs.length≤1000))).map fun h=>.list h.1 h.2
      | _=>.no)
    | .op2 o a b=>(match e with
      | .BinOp ea op eb _=>((Ck.dec (op=opOf o)).and ((chkE tb n sc a ea).and ((chkE tb n sc b eb).and (ckA a (bvE b))))).map k_op2
      | _=>.no)
    | .neg a=>(match e with
      | .UnaryOp .USub ea _=>(chkE tb n sc a ea).map .neg
      | _=>.no)
    | .not a=>(match e with
      | .UnaryOp .Not ea _=>(chkE tb n sc a ea).map .not
      | _=>.no)
    | .cmp o a b=>(match e with
      | .Compare ea [op] [eb] _=>((Ck.dec (op=cmOp o)).and ((chkE tb n sc a ea).and ((chkE tb n sc b eb).and (ckA a (bvE b))))).map k_cmp
      | _=>.no)
    | .and xs=>(match e with
      | .BoolOp .And es _=>(chkEs tb n sc xs es).map .and
      | _=>.no)
    | .or xs=>(match e with
      | .BoolOp .Or es _=>(chkEs tb n sc xs es).map .or
      | _=>.no)
    | .idx a i=>(match e with
      | .Subscript ea ei _=>((chkE tb n sc a ea).and ((chkE tb n sc i ei).and (ckA a (bvE i)))).map fun h=>.idx h.1 h.2.1 h.2.2
      | _=>.no)
    | .slc a l h=>(match e with
      | .Subscript ea (.Slice lo hi none _) _=>((chkE tb n sc a ea).and ((chkO tb n sc l lo).and ((chkO tb n sc h hi).and (ckA a (bvE l++bvE h))))).map fun h=>.slc h.1 h.2.1 h.2.2.1 h.2.2.2
      | _=>.no)
    | .call f xs=>(match e with
      | .Call (.Name v _) es [] _=>((Ck.ofB fnIs_ok).and ((ckG sc v).and ((chkEs tb n sc xs es).and (.dec (es.length≤29))))).map k_call
      | _=>.no)
    | .bi b [a]=>(match e with
      | .Call (.Name v _) [ea] [] _=>((Ck.dec (b.one=true)).and ((Ck.dec (v=biName b)).and ((ckG sc v).and (chkE tb n sc a ea)))).map k_bi1
      | .Call (.Name v _) [ea,.Name u _] [] _=>(match b with
        | .isi t=>((Ck.dec (v = ("isinstance" :Str))).and ((Ck.dec (u = (tyName t:Str))).and ((ckG sc v).and ((ckG sc u).and (chkE tb n sc a ea))))).map k_isi
        | _=>.no)
      | _=>.no:Ck (CE tb sc e (.bi b [a]))).or (((chkB sc e b).ck.and ((Ck.dec (bxB b [a]=true)).and (chkEs tb n sc [a] (chkB sc e b).es))).map fun h=>.bx h.1 h.2.1 h.2.2)
    | .bi b xs=>((chkB sc e b).ck.and ((Ck.dec (bxB b xs=true)).and (chkEs tb n sc xs (chkB sc e b).es))).map fun h=>.bx h.1 h.2.1 h.2.2
    | .comp elt t it src conds=>(match e with
      | .ListComp ee [⟨g,iter,ifs,0⟩] scope _=>((ckCG g t).ck.and ((ckZ it t).and ((chkI tb n sc it src iter).and ((Ck.ofB (compB__ok (scope:=scope) (sc:=sc) (vs:=(ckCG g t).vs))).and ((Ck.dec (sc.hi≤(ckCG g t).i)).and ((chkE tb n (compSc scope sc (ckCG g t).vs (ckCG g t).i) elt ee).and ((chkEs tb n (compSc scope sc (ckCG g t).vs (ckCG g t).i) conds ifs).and (ckN elt conds (tgtVars t))))))))).map fun ⟨h0,hz,h1,h2,h3,h4,h5,h6⟩=>.comp h0 hz h1 h2 h3 h4 h5 h6
      | _=>.no)
    | .isx i yes no=>(match e with
      | .Call (.Name v _) [.Name x _,.Name cn _] [] _=>((Ck.dec (v = ("isinstance" :Str))).and ((ckG sc v).and ((ckV sc x i).and ((ckG sc cn).and (.dec (tb.sub.lookup cn = some (yes,no))))))).map k_isx
      | .Call (.Name v _) [.Name x _,.Tuple es _ _] [] _=>(match nsOf es with
        | none=>.no
        | some cs=>((Ck.dec (v = ("isinstance" :Str))).and ((ckG sc v).and ((ckV sc x i).and ((ckNS sc es cs).and (.dec (cs.length≤1000∧tb.sbt.lookup cs = some (yes,no))))))).map k_isxt)
      | _=>.no)
noncomputable def chkEs (tb:Tb) :Nat→(sc:Sc)→(xs:List Ex)→(es:List Expr)→Ck (CEs tb sc es xs)
  | 0,_,_,_=>.no
  | n+1,sc,xs,es=>match xs with
    | []=>(match es with
      | []=>⟨true,fun J=>.nil⟩
      | _::_=>.no)
    | x::xs=>(match es with
      | []=>.no
      | e::es=>((chkE tb n sc x e).and ((chkEs tb n sc xs es).and (ckA x (bvEs xs)))).map fun h=>.cons h.1 h.2.1 h.2.2)
noncomputable def chkO (tb:Tb) :Nat→(sc:Sc)→(x:Ex)→(o:Option Expr)→Ck (CEo tb sc o x)
  | 0,_,_,_=>.no
  | n+1,sc,x,o=>match o with
    | some e=>(chkE tb n sc x e).map .some
    | none=>(match x with
      | .lit .none=>⟨true,fun J=>.none⟩
      | _=>.no)
noncomputable def chkI (tb:Tb) :Nat→(sc:Sc)→(it:Itk)→(src:List Ex)→(e:Expr)→Ck (IT tb sc e it src)
  | 0,_,_,_,_=>.no
  | n+1,sc,it,src,e=>match src with
    | [x]=>(match it with
      | .seq=>(chkE tb n sc x e).map .seq
      | .range=>(match e with
        | .Call (.Name v _) [e] [] _=>((Ck.dec (v = ("range" :Str))).and ((ckG sc v).and (chkE tb n sc x e))).map k_range
        | _=>.no)
      | _=>.no)
    | [x1,x2]=>(match it with
      | .zip=>(match e with
        | .Call (.Name v _) [e1,e2] [] _=>((Ck.dec (v = ("zip" :Str))).and ((ckG sc v).and (chkEs tb n sc [x1,x2] [e1,e2]))).map k_zip
        | _=>.no)
      | _=>.no)
    | _=>.no
end
noncomputable def ckTs (sc:Sc) :(es:List Expr)→(is:List Nat)→Ck (TGs sc es is)
  | [],[]=>⟨true,fun J=>.nil⟩
  | .Name x _::es,i::is=>((ckV sc x i).and (ckTs sc es is)).map fun h=>.cons h.1 h.2
  | _,_=>.no
noncomputable def ckT (sc:Sc) (g:Expr) (t:Tgt) :Ck (TG sc g t):=match t with
  | .one i=>(match g with
    | .Name x _=>(ckV sc x i).map .one
    | _=>.no)
  | .tup is=>(match g with
    | .Tuple es _ _=>(ckTs sc es is).map .tup
    | _=>.no)
theorem k_raise {tb:Tb} {sc:Sc} {k k' msg:Str} {np cpos pos ap:Pos} {kk:Nat} (h:(k'=k∧k'∈tb.cl)∧sc.isG k') :CS tb sc (.Raise (some (.Call (.Name k' np) [.Constant (.str msg) kk ap] [] cpos)) none pos) (.raise k):=by
  obtain ⟨⟨rfl,a⟩,b⟩:=h; exact .raise b a
theorem sub_yes {tb:Tb} {cn:Str} {yes:List Str} (h:((tb.sub.lookup cn).map (·.1)==some yes)=true) :∃no,tb.sub.lookup cn=some (yes,no):=by
  cases q:tb.sub.lookup cn with
  | none=>rw [q] at h; cases h
  | some p=>rw [q] at h; obtain ⟨a,b⟩:=p; simp at h; subst h; exact ⟨b,rfl⟩
theorem k_app {tb:Tb} {sc:Sc} {x m:Str} {p apos pos p':Pos} {v:Expr} {i:Nat} {e:Ex} (h:(m = ("append" :Str)∧apos.endLine = pos.line)∧sc.isV x i∧CE tb sc v e) :CS tb sc (.Expr (.Call (.Attribute (.Name x p) m apos) [v] [] pos) p') (.app (.var i) e):=by
  obtain ⟨⟨rfl,a⟩,b,c⟩:=h; exact .app b c (beq_iff_eq.mpr a)
mutual
noncomputable def chkS (tb:Tb) (sc:Sc) :Nat→(z:St)→(s:Stmt)→Ck (CS tb sc s z)
  | 0,_,_=>.no
  | n+1,z,s=>match z with
    | .asg (.one i) e=>(match s with
      | .Assign [.Name x _] value _=>((ckV sc x i).and (chkE tb n sc e value)).map fun h=>.asg h.1 h.2
      | _=>.no)
    | .asg (.tup is) e=>(match s with
      | .Assign [.Tuple es k0 tp] value pos0=>(((ckTs sc es is).and ((chkE tb n sc e value).and (.dec (noComp value=true∧noTup value=true)))).map fun h=>.asgT h.1 h.2.1 h.2.2.1 h.2.2.2)
      | _=>.no)
    | .no=>⟨true,fun J=>.no⟩
    | .setI (.var i) k e=>(match s with
      | .Assign [.Subscript (.Name x _) idx _] value _=>((ckV sc x i).and ((chkE tb n sc e value).and (chkE tb n sc k idx))).map fun h=>.setI h.1 h.2.1 h.2.2
      | _=>.no)
    | .app (.var i) e=>(match s with
      | .Expr (.Call (.Attribute (.Name x _) m apos) [v] [] pos) _=>((Ck.dec (m = ("append" :Str)∧apos.endLine = pos.line)).and ((ckV sc x i).and (chkE tb n sc e v))).map k_app
      | _=>.no)
    | .exp e=>(match s with
      | .Expr v _=>((chkE tb n sc e v).and (.dec (noComp v=true))).map fun h=>.exp h.1 h.2
      | .Pass _=>(match e with
        | .lit .none=>⟨true,fun J=>.pass⟩
        | _=>.no)
      | _=>.no)
    | .iff t a b=>(match s with
      | .If et sa sb _=>((chkE tb n sc t et).and ((chkSs tb sc n a sa).and (chkSs tb sc n b sb))).map fun h=>.iff h.1 h.2.1 h.2.2
      | _=>.no)
    | .ret e=>(match s with
      | .Return (some v) _=>(chkE tb n sc e v).map .ret
      | .Return none _=>(match e with
        | .lit .none=>⟨true,fun J=>.retN⟩
        | _=>.no)
      | _=>.no)
    | .for_ t it src body tmp=>(match s with
      | .For g iter sb [] _=>((ckT sc g t).and ((ckZ it t).and ((chkI tb n sc it src iter).and (chkSs tb sc n body sb)))).map fun h=>.for1 h.1 h.2.1 h.2.2.1 h.2.2.2
      | _=>.no)
    | .raise k=>(match s with
      | .Raise (some (.Call (.Name k' _) [.Constant (.str _) _ _] [] _)) none _=>((Ck.dec (k'=k∧k'∈tb.cl)).and (ckG sc k')).map k_raise
      | _=>.no)
    | .try_ xb yes i xh=>(match s with
      | .Try body [.ExceptHandler (some (.Name cn _)) (some x) (h0::hs) _] [] [] _=>((ckV sc x i).and ((Ck.dec (sc.names.lookup x=some .local)).and ((ckG sc cn).and ((Ck.ofB (sub_yes (tb:=tb) (cn:=cn) (yes:=yes))).and ((chkSs tb sc n xb body).and (chkSs tb sc n xh (h0::hs))))))).map fun ⟨h1,h2,h3,⟨_,h4⟩,h5,h6⟩=>.try1 h1 h2 h3 h4 h5 h6
      | _=>.no)
noncomputable def chkSs (tb:Tb) (sc:Sc) :Nat→(zs:List St)→(ss:List Stmt)→Ck (CSs tb sc ss zs)
  | 0,_,_=>.no
  | n+1,zs,ss=>match zs with
    | []=>(match ss with
      | []=>⟨true,fun J=>.nil⟩
      | _::_=>.no)
    | z::zs=>(match ss with
      | []=>.no
      | s::ss=>((chkS tb sc n z s).and (chkSs tb sc n zs ss)).map fun h=>.cons h.1 h.2)
end
end Mv
end
section
namespace Mv
open PySem PyProof.Rows
theorem zip_lookup:∀ {ns:List Str} {vs:List Value},ns.length=vs.length→ ∀x∈ns,((ns.zip vs).lookup x).isNone=false
  | [],_=>@fun J x h=>by cases h
  | n::ns,[]=>@fun h J U=>by simp at h
  | n::ns,v::vs=>@fun h x hx=>by
    rw [List.zip_cons_cons,List.lookup_cons]
    cases q:x==n with
    | true=>rfl
    | false=>
      rcases List.mem_cons.mp hx with rfl | hx
      · simp at q
      · exact zip_lookup (by simpa using h) x hx
theorem lookup_skip {n:Str} {v:Value} {l:List (Str×Value)} {x:Str} (h:x≠n) :((n,v)::l).lookup x=l.lookup x:=by
  rw [List.lookup_cons]
  have:(x==n)=false:=by simpa using h
  rw [this]
theorem zip_map:∀ {ns:List Str} {vs:List Value},ns.length=vs.length→ns.Nodup→(ns.filterMap fun n=>((ns.zip vs).lookup n).map (n, ·))=ns.zip vs
  | [],_=>@fun J U=>rfl
  | n::ns,[]=>@fun h J=>by simp at h
  | n::ns,v::vs=>@fun h nd=>by
    obtain ⟨h1,h2⟩:=List.nodup_cons.mp nd
    have e:(ns.filterMap fun x=>(((n,v)::ns.zip vs).lookup x).map (x, ·))=ns.filterMap fun x=>((ns.zip vs).lookup x).map (x, ·):=by
      clear nd h2 h
      suffices H:∀l:List Str,(∀x∈l,x≠n)→(l.filterMap fun x=>(((n,v)::ns.zip vs).lookup x).map (x, ·))=l.filterMap fun x=>((ns.zip vs).lookup x).map (x, ·) from H ns fun x hx q=>h1 (q▸hx)
      intro l
      induction l with
      | nil=>intro _; rfl
      | cons a l ih=>
        intro hl
        rw [List.filterMap_cons,List.filterMap_cons,lookup_skip (hl a List.mem_cons_self),ih fun x hx=>hl x (List.mem_cons_of_mem _ hx)]
    rw [List.zip_cons_cons,List.filterMap_cons]
    simp only [List.lookup_cons_self,Option.map_some]
    rw [e,zip_map (by simpa using h) h2]
theorem bind_plain {name:Str} {args:List Arg} {kd:List (Option Expr)} {df:List Expr} {body:List Stmt} {scope:Scope} {pm code doc:Value} {vs:List Value} (hl:(args.map (·.arg)).length=vs.length) (nd:(args.map (·.arg)).Nodup) :
    bindArgs (Calls.docDef name ⟨[],args,none,[],kd,none,df⟩ body scope pm code doc) ⟨vs,[]⟩=pure ((args.map (·.arg)).zip vs):=by
  unfold bindArgs
  simp only [Calls.docDef,List.map_nil,List.nil_append,List.forIn_nil,seqItems?]
  simp only [Option.isSome_none,Option.isNone_none,Bool.and_true,hl,gt_iff_lt,Nat.lt_irrefl,decide_false,Bool.false_eq_true,if_false]
  have hm:(List.filter (fun n=>(List.lookup n ((List.map (fun x=>x.arg) args).zip vs)).isNone) (List.map (fun x=>x.arg) args))=[]:=by
    rw [List.filter_eq_nil_iff]; intro x hx; rw [zip_lookup hl x hx]; simp
  change (if (!(List.filter (fun n=>(List.lookup n ((List.map (fun x=>x.arg) args).zip vs)).isNone) (List.take (vs.length - (List.drop (0 - vs.length) ([] :List Value)).length) (List.map (fun x=>x.arg) args))).isEmpty)=true then _ else _)=_
  rw [List.drop_nil,List.length_nil,Nat.sub_zero,List.take_of_length_le (Nat.le_of_eq hl),hm,if_neg (by simp)]
  change (forIn ((List.drop (vs.length - (List.drop (0 - vs.length) ([] :List Value)).length) (List.map (fun x=>x.arg) args)).zip (List.drop (0 - vs.length) ([] :List Value))) _ _ >>= _)=_
  rw [List.drop_nil,List.zip_nil_right,List.forIn_nil]
  change (pure _:Sem (List (Str×Value)))=_
  rw [List.append_nil,zip_map hl nd]
end Mv
end
section
namespace Mv
open PySem PySem.W PyProof.Rows
noncomputable def fokB (tb:Tb) (d:DefRec) (fn:Fn) (names:List Str) :Bool:=
  decide names.Nodup&&decide (fn.np≤names.length)&&(names.all fun x=>decide (d.scope.names.lookup x=some .local∨d.scope.names.lookup x=some .cell))&&(chkSs tb (scOf d names) 300 fn.body d.body).val &&
  !d.scope.isCoroutine && !d.scope.isGenerator&&decide (d.scope.kind = .function)&&(d.scope.names.all fun x=>decide (x.2≠ .free))&&(match d.params with
    | ⟨[],args,none,[],_,none,_⟩=>decide (args.map (·.arg)=names.take fn.np)
    | _=>false)
theorem fokB_ok {tb:Tb} {d:DefRec} {fn:Fn} {names:List Str} (h:fokB tb d fn names=true) :FOk tb d fn names:=by
  obtain ⟨h,h9⟩:=Bool.and_eq_true_iff.mp h
  obtain ⟨h,h8⟩:=Bool.and_eq_true_iff.mp h
  obtain ⟨h,h7⟩:=Bool.and_eq_true_iff.mp h
  obtain ⟨h,h6⟩:=Bool.and_eq_true_iff.mp h
  obtain ⟨h,h5⟩:=Bool.and_eq_true_iff.mp h
  obtain ⟨h,h4⟩:=Bool.and_eq_true_iff.mp h
  obtain ⟨h,h3⟩:=Bool.and_eq_true_iff.mp h
  obtain ⟨h1,h2⟩:=Bool.and_eq_true_iff.mp h
  have h1:=of_decide_eq_true h1
  refine ⟨h1,of_decide_eq_true h2,fun x hx=>of_decide_eq_true (List.all_eq_true.mp h3 x hx),fun vs hv pm code doc=>?_,(chkSs _ _ 300 _ _).ok h4,(Bool.not_eq_true' _▸h5:_=false),(Bool.not_eq_true' _▸h6:_=false),of_decide_eq_true h7,fun x hx=>of_decide_eq_true (List.all_eq_true.mp h8 x hx)⟩
  revert h9
  cases d.params with
  | mk po args va ko kd kw df=>
    cases po with
    | cons _ _=>exact fun h=>Bool.noConfusion h
    | nil=>
    cases va with
    | some _=>exact fun h=>Bool.noConfusion h
    | none=>
    cases ko with
    | cons _ _=>exact fun h=>Bool.noConfusion h
    | nil=>
    cases kw with
    | some _=>exact fun h=>Bool.noConfusion h
    | none=>
    intro h9
    have h9:=of_decide_eq_true h9
    rw [← h9]
    refine bind_plain ?_ ?_
    · rw [h9,List.length_take,hv]; exact Nat.min_eq_left (of_decide_eq_true h2)
    · rw [h9]; exact h1.sublist (List.take_sublist _ _)
noncomputable def fnsB (tb:Tb) :List DefRec→List Fn→List (List Str)→Bool
  | d::ds,fn::fns,ns::nss=>fokB tb d fn ns&&fnsB tb ds fns nss
  | _,[],_=>true
  | _,_,_=>false
theorem fnsB_ok {tb:Tb} :∀ {ds:List DefRec} {fns:List Fn} {nss:List (List Str)},fnsB tb ds fns nss=true→ ∀(f:Nat) (fn:Fn) (d:DefRec),fns[f]? = some fn→ds[f]? = some d→ ∃names,FOk tb d fn names
  | d::ds,fn::fns,ns::nss,h,0=>@fun J U h1 h2=>by
    have h:=Bool.and_eq_true_iff.mp (show (fokB tb d fn ns&&fnsB tb ds fns nss)=true from h)
    obtain rfl:=Option.some.inj h1; obtain rfl:=Option.some.inj h2
    exact ⟨ns,fokB_ok h.1⟩
  | d::ds,fn::fns,ns::nss,h,f+1=>@fun J U h1 h2=>
    fnsB_ok (Bool.and_eq_true_iff.mp (show (fokB tb d fn ns&&fnsB tb ds fns nss)=true from h)).2 f _ _ h1 h2
  | _,[],_,_,_=>@fun J U h1 j2_=>nomatch (show none=some _ from h1)
  | [],_::_,_,h,_=>@fun J U j2_ j3_=>nomatch (show false=true from h)
  | _::_,_::_,[],h,_=>@fun J U j2_ j3_=>nomatch (show false=true from h)
noncomputable def freeB (p:Program) (loose:List Str) :Bool:=
  biNames.all fun x=>!startupNames.contains x && !loose.contains x && !((recsOf p).map (·.name)).contains x && !((litsOf p).map (·.1)).contains x && !((clssOf p loose).map (·.name)).contains x
variable [hp:Hp]
section
variable {p:Program} {loose:List Str} {mean:ExcName→Option Value} {mg mb:Str→Option Value} {h:Heap}
theorem Gd.of_top {gl:List Str} {glob:List D} {cl:List Str} {sb:List (Str×List Str×List Str)} {sbt:List (List Str×List Str×List Str)} (T:Top p loose mean mg mb h) (hf:freeB p loose=true)
    (hcl:∀k∈cl, ∃C Bb newId initId bm,OwnClsQ k C bm newId mg h∧ExcBaseFacts Bb newId initId bm)
    (hask:∀c yes no,sb.lookup c=some (yes,no)→ ∃V,(mg c=some V∨(mg c=none∧mb c=some V))∧ ∀k C,mg k=some (.ref C)→(k∈yes→Asked h C V true)∧(k∈no→Asked h C V false))
    (haskT:∀cs yes no,sbt.lookup cs=some (yes,no)→ ∃Vs,LoadAs mg mb cs Vs∧ ∀k C,mg k=some (.ref C)→(k∈yes→AskedT h C Vs true)∧(k∈no→AskedT h C Vs false))
    (hgl:∀(k:Nat) (x:Str) (d:D),gl[k]? = some x→glob[k]? = some d→ ∃v,mg x=some v∧ ∀(h':Heap) (Z:Addr→Prop),(∀a o,h.get? a=some o→h'.get? a=some o)→(∀a o,h.get? a=some o→Z a)→Rep h' Z v d) :Gd h mg mb glob ⟨recsOf p,gl,cl,sb,sbt⟩ where
  g:=T.g
  b:=T.b
  nl:=T.nolimit
  bt:=T.builtins
  fn:=fun f d hd=>T.fn d (List.mem_of_getElem? hd)
  gl:=hgl
  bi:=fun x hx=>by
    simp only [freeB,List.all_eq_true,Bool.and_eq_true,Bool.not_eq_true',List.contains_eq_mem,decide_eq_false_iff_not] at hf
    obtain ⟨⟨⟨⟨h1,h2⟩,h3⟩,h4⟩,h5⟩:=hf x hx
    exact T.free x h1 h2 h3 h4 h5
  cl:=hcl
  ask:=hask
  askT:=haskT
theorem const_int {x:Str} {i:Int} (T:Top p loose mean mg mb h) (hv:valOf p x=some (.int i)) :∃v,mg x=some v∧ ∀(h':Heap) (Z:Addr→Prop),(∀a o,h.get? a=some o→h'.get? a=some o)→(∀a o,h.get? a=some o→Z a)→Rep h' Z v (.int i):=by
  obtain ⟨v,hm,hr⟩:=T.const x _ hv
  refine ⟨v,hm,fun h' Z J U=>?_⟩
  cases hr h with
  | int i t=>exact .int i t
theorem loose_int {lv:List (Str×WData)} {x:Str} {i:Int} (V:LooseAre lv mg h) (hm:(x,WData.int i)∈lv) :∃v,mg x=some v∧ ∀(h':Heap) (Z:Addr→Prop),(∀a o,h.get? a=some o→h'.get? a=some o)→(∀a o,h.get? a=some o→Z a)→Rep h' Z v (.int i):=by
  obtain ⟨v,hg,hr⟩:=V.val _ hm
  refine ⟨v,hg,fun h' Z J U=>?_⟩
  cases hr with
  | int i t=>exact .int i t
end
theorem ints_rep {P:Params} {h:Heap} {Z:Addr→Prop} :∀ {vs:List Value} {xs:List Int},WellAll P h vs (ofPys (xs.map .int))→RepAll h Z vs (xs.map .int)
  | vs,[]=>@fun W=>by cases W; exact .nil
  | vs,x::xs=>@fun W=>by
    cases W with
    | cons a b=>
      cases a with
      | int _ t=>exact .cons (.int _ t) (ints_rep b)
theorem law_top {p:Program} {loose:List Str} {mean mean':ExcName→Option Value} {mg mb:Str→Option Value} {s₁:Shared} {P:Pr} {gl:List Str} {nss:List (List Str)} {f n:Nat} {d:DefRec} {fa l:Addr} {xs:List Int} {outs:List Slot} {cls:List Str} {sb:List (Str×List Str×List Str)} {sbt:List (List Str×List Str×List Str)}
    {c:ClaimW} {cl:Str→Option Addr} {args:List WData}
    (T:Top p loose mean mg mb s₁.heap) (hall:fnsB ⟨recsOf p,gl,cls,sb,sbt⟩ (recsOf p) P.fns nss=true) (hfree:freeB p loose=true)
    (hcl:∀k∈cls, ∃C Bb newId initId bm,OwnClsQ k C bm newId mg s₁.heap∧ExcBaseFacts Bb newId initId bm)
    (hask:∀c yes no,sb.lookup c=some (yes,no)→ ∃V,(mg c=some V∨(mg c=none∧mb c=some V))∧ ∀k C,mg k=some (.ref C)→(k∈yes→Asked s₁.heap C V true)∧(k∈no→Asked s₁.heap C V false))
    (haskT:∀cs yes no,sbt.lookup cs=some (yes,no)→ ∃Vs,LoadAs mg mb cs Vs∧ ∀k C,mg k=some (.ref C)→(k∈yes→AskedT s₁.heap C Vs true)∧(k∈no→AskedT s₁.heap C Vs false))
    (hgl:∀(k:Nat) (x:Str) (d:D),gl[k]? = some x→P.glob[k]? = some d→ ∃v,mg x=some v∧ ∀(h':Heap) (Z:Addr→Prop),(∀a o,s₁.heap.get? a=some o→h'.get? a=some o)→(∀a o,s₁.heap.get? a=some o→Z a)→Rep h' Z v d)
    (hd:(recsOf p)[f]? = some d) (hfa:mg d.name=some (.ref fa)) (W:Well w.params s₁.heap (.ref l) (ofPy (.list (xs.map .int)))) (hlen:xs.length≤Sz) (hn:n≤600) (hgen:s₁.gens = #[])
    (hr:∀cls,c.raises args cls=false) (hp:c.post args (.bool true) args=true)
    (h:cF P n false f [.fz (.list (xs.map .int))]=some (.ok (.fz (.bool true)),outs)) :
    codeAny (model prog w) callerA (.call (.ref fa) ⟨[.ref l],[]⟩) (GoodWG c cl mean' args s₁) s₁:=by
  have gd:Gd s₁.heap mg mb P.glob ⟨recsOf p,gl,cls,sb,sbt⟩:=Gd.of_top T hfree hcl hask haskT hgl
  have cs:=call_sound gd (fun f fn d h1 h2=>fnsB_ok hall f fn d h1 h2) n
  have hcm:claimMargin=300:=by decide
  refine codeAny_mono (cs false f _ _ _ h d hd fa hfa callerA (fun J=>False) (fun J=>none) (fun a=> ∃o,s₁.heap.get? a=some o) s₁ [.ref l] ?_ ?_ (fun J=>rfl) ⟨[],rfl,fun J h=>by cases h⟩ ⟨fun J U e=>e,fun a o e=>⟨o,e⟩,fun J U=>rfl,fun J U f=>f,fun J U f=>f,fun J z=>z,fun J z=>absurd rfl z,fun J f=>f.elim⟩ ⟨rfl,fun k sl v e1 e2=>?_⟩) fun r s' p=>?_
  · show 1+claimMargin+n≤999; exact (lin [claimMargin,n] [] 1 (.nle (.a (.a (.c 1) (.v 0)) (.v 1)) (.c 999)) [(1,.nle (.v 1) (.c 600)),(1,.neq (.v 0) (.c 300))] rfl hn hcm)
  · show 4+4*n≤4000; exact (lin [n] [] 1 (.nle (.a (.c 4) (.m 4 (.v 0))) (.c 4000)) [(4,.nle (.v 0) (.c 600))] rfl hn)
  · cases k with
    | zero=>
      simp at e1 e2
      subst e1; subst e2
      refine ⟨(fun q=>by cases q),?_⟩
      cases W with
      | @list _ vs ws hget hall=>
        exact .list ⟨_,hget⟩ hget (by rw [(ints_rep (Z:=fun J=>True) hall).length,List.length_map]; exact hlen) (ints_rep hall)
    | succ k=>simp at e1
  · obtain ⟨own',Z',G,S,_,⟨rv,v,q,rfl,R⟩ | ⟨nm,a,q,_⟩⟩:=p
    rotate_left
    · cases q
    cases q
    obtain ⟨h',tk,rfl⟩:=S.sh
    refine GoodW.toG ⟨.inl ⟨v,.bool true,[],rfl,hr,?_,hp,fun J=>⟨List.nodup_nil,fun a ha=>by cases ha⟩⟩,G.base,rfl,hgen⟩
    cases R
    exact .bool true
end Mv
end
section
namespace Mv
open PySem PySem.W PyProof.Rows
section
variable {prog:Program} {w:World} {A:Around} {E:Value→Shared→Prop} {s:Shared} {K:Frag} {x D:Addr} {ox:Obj}
theorem exc_class {Q:Option Value→Shared→Prop} (X:K.In s.heap) (I:InstAt s.heap x ox D none) (hga:findIn K (.ref D) "__getattribute__" = some (some (.builtin "BaseException.__getattribute__"))) (hgt:findIn K (.ref D) "__getattr__" = some none)
    (hf:findObj K D none "__class__" = some (.bind (.builtin "getset_descriptor.__get__") (.builtin "object.__class__"))) (hmB:mroIn K D (.type "BaseException") = some true) (hmo:mroIn K D (.type "object") = some true)
    (h:Q (some (.ref D)) {s with toks:=s.toks + 1}) :wpAny (model prog w) A (getAttr? (.ref x) "__class__") Q E s:=by
  obtain ⟨hh,g,d,t,os⟩:=s
  have L0:=I.type (M:=model prog w)
  have L1:=looks_findIn (M:=model prog w) X hga
  have L2:=looks_findIn (M:=model prog w) X hgt
  have L3:=looks_find (M:=model prog w) X I hf
  have L4:=looks_mroIn (M:=model prog w) X hmB
  unfold getAttr? getAttrBy? getAttrBy
  refine wpAny_bind (wpAny_mkText (wpAny_bind (wpAny_attempt (wpAny_holding (wpAny_bind (L0.at (wpAny_bind (L1.at ?_))))))))
  dsimp only
  rw [if_neg (by simp)]
  have f3:=(PySem.F.attrBase_ValueError).ga.bind (.ref x)
  repeat (any_goals (first | assumption | with_reducible refine Looks.at (by assumption) ?_ | wp_step))
  refine codeAny_call_builtin (PySem.F.attrBase_ValueError).ga.plain PySem.F.entry_bexc_ga ?_
  have hk:builtinKind "BaseException.__getattribute__" = some .slot:=by decide +kernel
  have hsplit:splitId "BaseException.__getattribute__" = some ("BaseException","__getattribute__"):=by decide +kernel
  have ha:=PySem.F.args_bexc_ga (.ref x) (.str "__class__" t)
  simp only [checkBuiltinCall,hk,hsplit,List.cons_append,List.nil_append]
  refine wpAny_bind ?_
  unfold isInstance
  repeat (any_goals (first | assumption | with_reducible refine Looks.at (by assumption) ?_ | wp_step))
  refine class_get (s:=⟨hh,g,d,t+1,os⟩) (od:=none) X I hmo ?_
  repeat (any_goals (first | assumption | wp_step))
set_option tactic.hygienic true in
theorem kitx_exc (hga:findIn K (.ref D) "__getattribute__" = some (some (.builtin "BaseException.__getattribute__"))) (hgt:findIn K (.ref D) "__getattr__" = some none)
    (hf:findObj K D none "__class__" = some (.bind (.builtin "getset_descriptor.__get__") (.builtin "object.__class__"))) (hmB:mroIn K D (.type "BaseException") = some true) (hmo:mroIn K D (.type "object") = some true) (hcl:(clsIn K D).isSome = true) :
    KitX K (.ref x) (.ref D) (fun h=> ∃ox,InstAt h x ox D none) where
  ty:=fun _ _ _ ⟨_,I⟩=>I.type
  it:=fun J U X j2_=>by
    obtain ⟨cd,hc⟩:=Option.isSome_iff_exists.mp hcl
    unfold clsIn at hc
    split at hc
    · rename_i ho
      intro A' Q' E' s' k q
      unfold isType loadHead
      exact wpAny_bind (wpAny_loadPart (k _ _ (X _ _ ho)) (wpAny_pure q))
    · cases hc
  ne:=fun h tp dd its n sl X htp=>by
    obtain ⟨cd,hc⟩:=Option.isSome_iff_exists.mp hcl
    refine Bool.eq_false_iff.mpr fun q=>?_
    have e:D=tp:=Value.ref.inj (beq_iff_eq.mp q)
    subst e
    unfold clsIn at hc
    split at hc
    · rename_i ho
      have z:=(X _ _ ho).symm.trans htp
      cases z
    · cases hc
  ca:=fun X ⟨_,I⟩ k=>exc_class X I hga hgt hf hmB hmo k
end
theorem asked_of {K:Frag} {B:Heap} {D:Addr} {V:Value} {b:Bool} (X:K.In B) (hga:findIn K (.ref D) "__getattribute__" = some (some (.builtin "BaseException.__getattribute__"))) (hgt:findIn K (.ref D) "__getattr__" = some none)
    (hf:findObj K D none "__class__" = some (.bind (.builtin "getset_descriptor.__get__") (.builtin "object.__class__"))) (hmB:mroIn K D (.type "BaseException") = some true) (hmo:mroIn K D (.type "object") = some true) (hcl:(clsIn K D).isSome = true)
    (h1:kitOne K (.ref D) V=some b) (h2:exmOne K (.ref D) V=some b) :Asked B D V b:=by
  intro prog w A E s a o hB ha hc
  have X':=X.keeps hB
  have I:InstAt s.heap a o D none:=⟨ha,hc.1,by obtain ⟨_,_,vs,hd⟩:=hc; obtain ⟨c,d,dt,sl⟩:=o; cases hd; rfl,by rw [hc.2.1]; trivial⟩
  exact ⟨fun Q q=>exm_one X' I.type h2 A Q E s (fun J U e=>e) q,fun Q q=>kia_one (kitx_exc hga hgt hf hmB hmo hcl) X' ⟨o,I⟩ h1 (by intro z; cases z) q⟩
theorem askedT_of {K:Frag} {B:Heap} {D:Addr} {Vs:List Value} {b:Bool} (X:K.In B) (hga:findIn K (.ref D) "__getattribute__" = some (some (.builtin "BaseException.__getattribute__"))) (hgt:findIn K (.ref D) "__getattr__" = some none)
    (hf:findObj K D none "__class__" = some (.bind (.builtin "getset_descriptor.__get__") (.builtin "object.__class__"))) (hmB:mroIn K D (.type "BaseException") = some true) (hmo:mroIn K D (.type "object") = some true) (hcl:(clsIn K D).isSome = true)
    (h1:kitAny K (.ref D) Vs=some b) :AskedT B D Vs b:=by
  intro prog w A E s a tp o hB ha hc ht Q q
  have I:InstAt s.heap a o D none:=⟨ha,hc.1,by obtain ⟨_,_,vs,hd⟩:=hc; obtain ⟨c,d,dt,sl⟩:=o; cases hd; rfl,by rw [hc.2.1]; trivial⟩
  exact kia_tup (kitx_exc hga hgt hf hmB hmo hcl) (X.keeps hB) ⟨o,I⟩ ht h1 (by intro z; cases z) q
end Mv
end
section
namespace Mv
open PySem PySem.W PyProof.Rows
noncomputable def isBind (r:Option Builtin.ObjectAttr.Found) :Bool:=match r with
  | some (.bind (.builtin g) (.builtin a))=>g == "getset_descriptor.__get__" && a == "object.__class__"
  | _=>false
theorem isBind_ok {r:Option Builtin.ObjectAttr.Found} (h:isBind r = true) :r = some (.bind (.builtin "getset_descriptor.__get__") (.builtin "object.__class__")):=by
  unfold isBind at h
  split at h
  · rw [Bool.and_eq_true,beq_iff_eq,beq_iff_eq] at h
    obtain ⟨rfl,rfl⟩:=h; rfl
  · cases h
noncomputable def excOk (K:Frag) (D:Addr) :Bool:=
  (findIn K (.ref D) "__getattribute__" == some (some (.builtin "BaseException.__getattribute__"))) && (findIn K (.ref D) "__getattr__" == some none) && isBind (findObj K D none "__class__") && (mroIn K D (.type "BaseException") == some true) && (mroIn K D (.type "object") == some true) && (clsIn K D).isSome
noncomputable def ask1 (K:Frag) (V:Value) (b:Bool) (g:Option Value) :Bool:=match g with
  | some (.ref D)=>excOk K D&&(kitOne K (.ref D) V==some b)&&(exmOne K (.ref D) V==some b)
  | _=>false
noncomputable def askT1 (K:Frag) (Vs:List Value) (b:Bool) (g:Option Value) :Bool:=match g with
  | some (.ref D)=>excOk K D&&(kitAny K (.ref D) Vs==some b)
  | _=>false
theorem ask1_ok [Hp] {K:Frag} {B:Heap} {V:Value} {b:Bool} {D:Addr} (X:K.In B) (h:ask1 K V b (some (.ref D))=true) :Asked B D V b:=by
  simp only [ask1,excOk,Bool.and_eq_true,beq_iff_eq] at h
  obtain ⟨⟨⟨⟨⟨⟨⟨h1,h2⟩,h3⟩,h4⟩,h5⟩,h6⟩,h7⟩,h8⟩:=h
  exact asked_of X h1 h2 (isBind_ok h3) h4 h5 h6 h7 h8
theorem askT1_ok [Hp] {K:Frag} {B:Heap} {Vs:List Value} {b:Bool} {D:Addr} (X:K.In B) (h:askT1 K Vs b (some (.ref D))=true) :AskedT B D Vs b:=by
  simp only [askT1,excOk,Bool.and_eq_true,beq_iff_eq] at h
  obtain ⟨⟨⟨⟨⟨⟨h1,h2⟩,h3⟩,h4⟩,h5⟩,h6⟩,h7⟩:=h
  exact askedT_of X h1 h2 (isBind_ok h3) h4 h5 h6 h7
noncomputable def entB (K:Frag) (g:Str→Option Value) (V:Value) (yes no:List Str) :Bool:=(yes.all fun k=>ask1 K V true (g k))&&no.all fun k=>ask1 K V false (g k)
noncomputable def entT (K:Frag) (g:Str→Option Value) (Vs:List Value) (yes no:List Str) :Bool:=(yes.all fun k=>askT1 K Vs true (g k))&&no.all fun k=>askT1 K Vs false (g k)
theorem entB_ok [Hp] {K:Frag} {B:Heap} {g:Str→Option Value} {V:Value} {yes no:List Str} (X:K.In B) (h:entB K g V yes no=true) :∀k C,g k=some (.ref C)→(k∈yes→Asked B C V true)∧(k∈no→Asked B C V false):=by
  simp only [entB,Bool.and_eq_true,List.all_eq_true] at h
  exact fun k C hk=>⟨fun hm=>ask1_ok X (hk▸h.1 k hm),fun hm=>ask1_ok X (hk▸h.2 k hm)⟩
theorem entT_ok [Hp] {K:Frag} {B:Heap} {g:Str→Option Value} {Vs:List Value} {yes no:List Str} (X:K.In B) (h:entT K g Vs yes no=true) :∀k C,g k=some (.ref C)→(k∈yes→AskedT B C Vs true)∧(k∈no→AskedT B C Vs false):=by
  simp only [entT,Bool.and_eq_true,List.all_eq_true] at h
  exact fun k C hk=>⟨fun hm=>askT1_ok X (hk▸h.1 k hm),fun hm=>askT1_ok X (hk▸h.2 k hm)⟩
noncomputable def glOf (K:Frag) (x:Str) :Option Value:=match K.lookup mainGlobals with
  | some ⟨_,_,.dict es _,_⟩=>nsFind es x
  | _=>none
theorem glOf_ok {K:Frag} {h:Heap} {mg:Str→Option Value} (X:K.In h) (g:h.Ns mainGlobals mg) {es:Array DictEntry} {c:Value} {d:Option Addr} {ep:Nat} {sl:Array (Option Value)} (hk:K.lookup mainGlobals=some ⟨c,d,.dict es ep,sl⟩) (x:Str) :mg x=glOf K x:=by
  obtain ⟨o,es',ep',ho,hd,_,hf⟩:=g
  have:=X _ _ hk
  rw [this] at ho; cases ho
  cases hd
  unfold glOf
  rw [hk]
  exact (hf x).symm
theorem lookup_mem {α β:Type} [BEq α] [LawfulBEq α] {l:List (α×β)} {a:α} {b:β} (h:l.lookup a=some b) :(a,b)∈l:=by
  induction l with
  | nil=>cases h
  | cons p l ih=>
    obtain ⟨x,y⟩:=p
    rw [List.lookup_cons] at h
    cases q:a==x with
    | true=>rw [q] at h; cases h; rw [beq_iff_eq] at q; rw [q]; exact .head _
    | false=>rw [q] at h; exact .tail _ (ih h)
theorem owns_raise {p:Program} {loose:List Str} {mean:ExcName→Option Value} {mg mb:Str→Option Value} {h:Heap} (T:Top p loose mean mg mb h) {cls:List Str} {Bb nid iid:String} {bm:List Value} (FB:ExcBaseFacts Bb nid iid bm)
    (hc:(cls.all fun k=>(ownsOf p).any fun o=>decide (o.name=k)&&decide (o.newId=nid)&&(o.bm==bm))=true) :∀k∈cls, ∃C Bb newId initId bm,OwnClsQ k C bm newId mg h∧ExcBaseFacts Bb newId initId bm:=fun k hk=>by
  rw [List.all_eq_true] at hc
  obtain ⟨o,ho,hq⟩:=List.any_eq_true.mp (hc k hk)
  simp only [Bool.and_eq_true,decide_eq_true_eq,beq_iff_eq] at hq
  obtain ⟨⟨rfl,rfl⟩,rfl⟩:=hq
  obtain ⟨C,O,_⟩:=T.own o ho
  exact ⟨C,_,_,_,_,O,FB⟩
end Mv
end
section
namespace Lq
open PySem Mv
noncomputable abbrev S (l:List Nat) :D:=.str ⟨l.toArray⟩
noncomputable abbrev x_HalfError:Str:=⟨#[72,97,108,102,69,114,114,111,114]⟩
noncomputable abbrev x_NoNumber:Str:=⟨#[78,111,78,117,109,98,101,114]⟩
noncomputable abbrev x_NoList:Str:=⟨#[78,111,76,105,115,116]⟩
noncomputable abbrev x_NoFirst:Str:=⟨#[78,111,70,105,114,115,116]⟩
noncomputable abbrev x_NoDown:Str:=⟨#[78,111,68,111,119,110]⟩
noncomputable abbrev x_ByNought:Str:=⟨#[66,121,78,111,117,103,104,116]⟩
noncomputable abbrev x_TooGreat:Str:=⟨#[84,111,111,71,114,101,97,116]⟩
noncomputable abbrev x_TooLong:Str:=⟨#[84,111,111,76,111,110,103]⟩
noncomputable abbrev x_NotKept:Str:=⟨#[78,111,116,75,101,112,116]⟩
noncomputable abbrev x_NoText:Str:=⟨#[78,111,84,101,120,116]⟩
noncomputable def g_TAME:D:=(.tuple [(S [102,105,114,115,116]),(S [114,101,115,116]),(S [100,111,119,110])])
noncomputable def g_GREAT:D:=(.int 1000000000000000000)
noncomputable def g_HEAVIEST:D:=(.int 50)
noncomputable def g_SINGLES:D:=(.tuple [(S [100,111,119,110]),(S [102,105,114,115,116]),(S [114,101,115,116]),(S [101,109,112,116,121])])
noncomputable def f_calls_in:Fn:=⟨1,4,
   [.iff (.cmp .isin (.idx (.var 0) (.lit (.int 0))) (.tup [(.lit (S [118,97,108,117,101])),(.lit (S [110,97,109,101])),(.lit (S [114,101,102,117,115,101]))])) [.ret (.list [])] [],
    .iff (.cmp .eq (.idx (.var 0) (.lit (.int 0))) (.lit (S [105,102]))) [.asg (.one 1) (.slc (.var 0) (.lit (.int 1)) (.lit .none))] [.asg (.one 1) (.idx (.var 0) (.lit (.int 2)))],
    .asg (.one 2) (.list []),
    .for_ (.one 3) .seq [(.var 1)] [.asg (.one 2) (.op2 .add (.pl (.var 2)) (.call 0 [(.var 3)]))] [3],
    .iff (.cmp .eq (.idx (.var 0) (.lit (.int 0))) (.lit (S [99,97,108,108]))) [.app (.var 2) (.var 0)] [],
    .ret (.var 2)]⟩
noncomputable def f_is_tame:Fn:=⟨2,2,
   [.iff (.cmp .eq (.idx (.var 0) (.lit (.int 0))) (.lit (S [110,97,109,101]))) [.ret (.cmp .isin (.idx (.var 0) (.lit (.int 1))) (.var 1))] [],
    .iff (.cmp .eq (.idx (.var 0) (.lit (.int 0))) (.lit (S [100,111]))) [.ret (.and [(.cmp .isin (.idx (.var 0) (.lit (.int 1))) (.gl 0)),(.call 1 [(.idx (.idx (.var 0) (.lit (.int 2))) (.lit (.int 0))),(.var 1)])])] [],
    .ret (.cmp .isin (.idx (.var 0) (.lit (.int 0))) (.tup [(.lit (S [118,97,108,117,101])),(.lit (S [114,101,102,117,115,101]))]))]⟩
noncomputable def f_keeps:Fn:=⟨2,11,
   [.for_ (.tup [2,3,4]) .seq [(.var 0)] [.asg (.one 5) (.comp (.var 9) (.tup [9,10]) .zip [(.var 3),(.idx (.var 1) (.var 2))] [(.var 10)]),
      .for_ (.one 6) .seq [(.call 0 [(.var 4)])] [.for_ (.tup [7,8]) .zip [(.idx (.var 6) (.lit (.int 2))),(.idx (.var 1) (.idx (.var 6) (.lit (.int 1))))] [.iff (.and [(.var 8),(.not (.call 1 [(.var 7),(.var 5)]))]) [.ret (.lit (.bool false))] []] [7,8]] [6,7,8]] [2,3,4,5,6,7,8],
    .ret (.lit (.bool true))]⟩
noncomputable def f_room_left:Fn:=⟨2,5,
   [.no,.no,.no,.no,.no]⟩
noncomputable def f_is_value:Fn:=⟨1,1,
   [.no]⟩
noncomputable def f_fitting:Fn:=⟨1,1,
   [.no,.no]⟩
noncomputable def f_number_done:Fn:=⟨3,3,
   [.no,.no,.no,.no,.no,.no,.no]⟩
noncomputable def f_down:Fn:=⟨1,1,
   [.no,.no,.no]⟩
noncomputable def f_list_done:Fn:=⟨2,2,
   [.no,.no,.no,.no,.no]⟩
noncomputable def f_joined:Fn:=⟨2,2,
   [.no,.no]⟩
noncomputable def f_done:Fn:=⟨2,2,
   [.no,.no,.no,.no,.no,.no]⟩
noncomputable def f_worked_out:Fn:=⟨2,3,
   [.no,.no]⟩
noncomputable def f_worked:Fn:=⟨3,8,
   [.iff (.not (.call 2 [(.var 0),(.var 1)])) [.raise x_NotKept] [],
    .no,
    .no,
    .asg (.one 4) (.list []),
    .no,
    .asg (.one 5) (.list []),
    .no,
    .ret (.tup [(.bi .tuple [(.pl (.var 4))]),(.var 5)])]⟩
noncomputable def f_left_over:Fn:=⟨3,3,
   [.ret (.idx (.call 12 [(.var 0),(.var 1),(.var 2)]) (.lit (.int 0)))]⟩
noncomputable def f_cases:Fn:=⟨3,3,
   [.ret (.idx (.call 12 [(.var 0),(.var 1),(.var 2)]) (.lit (.int 1)))]⟩
noncomputable def f_l_cell_at:Fn:=⟨2,2,
   [.iff (.cmp .lt (.var 1) (.bi .len [(.var 0)])) [.ret (.idx (.var 0) (.var 1))] [],
    .ret (.lit (.int 0))]⟩
noncomputable def f_l_next:Fn:=⟨1,2,
   [.asg (.one 1) (.op2 .mod (.op2 .add (.op2 .mul (.var 0) (.lit (.int 48271))) (.lit (.int 11))) (.lit (.int 2147483647))),
    .ret (.op2 .mod (.op2 .mul (.var 1) (.var 1)) (.lit (.int 2147483629)))]⟩
noncomputable def f_l_value:Fn:=⟨1,3,
   [.asg (.one 1) (.list [(.lit (.int 0)),(.lit (.int 1)),(.lit (.int 2)),(.lit (.int 3)),(.lit (.int 5)),(.neg (.lit (.int 1))),(.neg (.lit (.int 4))),(.tup []),(.tup [(.lit (.int 1))]),(.tup [(.lit (.int 2)),(.lit (.int 0))]),(.tup [(.lit (.int 1)),(.lit (.int 2)),(.lit (.int 3))]),(.tup [(.tup []),(.lit (.int 1))]),(.tup [(.tup [(.lit (.int 1)),(.lit (.int 2))]),(.tup [(.lit (.int 3))])]),(.tup [(.lit (.int 4)),(.tup [(.lit (.int 5)),(.tup [(.lit (.int 6))])])])]),
    .iff (.cmp .eq (.op2 .mod (.var 0) (.lit (.int 16))) (.lit (.int 14))) [.ret (.op2 .add (.op2 .sub (.op2 .mod (.op2 .fdiv (.var 0) (.lit (.int 16))) (.op2 .sub (.op2 .mul (.lit (.int 2)) (.op2 .pow (.lit (.int 10)) (.lit (.int 18)))) (.lit (.int 1)))) (.op2 .pow (.lit (.int 10)) (.lit (.int 18)))) (.lit (.int 1)))] [],
    .iff (.cmp .eq (.op2 .mod (.var 0) (.lit (.int 16))) (.lit (.int 15))) [.ret (.bi .tuple [(.comp (.op2 .mod (.op2 .fdiv (.var 0) (.lit (.int 16))) (.op2 .add (.var 2) (.lit (.int 2)))) (.one 2) .range [(.op2 .mod (.op2 .fdiv (.var 0) (.lit (.int 16))) (.lit (.int 9)))] [])])] [],
    .ret (.idx (.var 1) (.op2 .mod (.var 0) (.lit (.int 16))))]⟩
noncomputable def f_l_names:Fn:=⟨1,8,
   [.iff (.cmp .eq (.op2 .mod (.var 0) (.lit (.int 9))) (.lit (.int 8))) [.asg (.one 1) (.list [(.lit (S [105,102,115])),(.lit (S [108,105,115,116,120])),(.lit (S [112,108,117,115,50])),(.lit (S [114,101,102,117,115,101,115])),(.lit (S [114,101,115,116,101,100])),(.lit (S [100,111,119,110,115])),(.lit (S [115,97,109,101,49])),(.lit (S [106,111,105,110,115])),(.lit (S [111,118,101,114,115])),(.lit (S [102,105,114,115,116,115]))]),
      .asg (.one 1) (.op2 .add (.var 1) (.list [(.lit (S [101,109,112,116,121,120])),(.lit (S [97,57]))])),
      .ret (.comp (.idx (.var 1) (.op2 .mod (.op2 .add (.op2 .fdiv (.var 0) (.lit (.int 9))) (.var 7)) (.lit (.int 12)))) (.one 7) .range [(.lit (.int 12))] [])] [],
    .asg (.one 2) (.op2 .add (.lit (.int 1)) (.op2 .mod (.var 0) (.lit (.int 8)))),
    .asg (.one 3) (.op2 .mod (.op2 .fdiv (.var 0) (.lit (.int 8))) (.var 2)),
    .asg (.one 1) (.lit (S [97,98,99,100,101,102,103,104,105,106,107,108,109,110,111,112,113,114,115,116,117,118,119,120,121,122,48,49,50,51,52,53,54,55,56,57])),
    .asg (.one 4) (.list []),
    .for_ (.one 5) .range [(.lit (.int 12))] [.asg (.one 6) (.idx (.var 1) (.op2 .mod (.op2 .add (.op2 .fdiv (.var 0) (.lit (.int 64))) (.var 5)) (.idx (.list [(.lit (.int 26)),(.lit (.int 36))]) (.bi .int [(.cmp .gt (.var 3) (.lit (.int 0)))])))),
      .app (.var 4) (.op2 .add (.op2 .add (.op2 .mul (.lit (S [109])) (.var 3)) (.var 6)) (.op2 .mul (.lit (S [109])) (.op2 .sub (.op2 .sub (.var 2) (.lit (.int 1))) (.var 3))))] [5,6],
    .ret (.var 4)]⟩
noncomputable def f_l_few:Fn:=⟨2,3,
   [.asg (.one 2) (.list [(.lit (.int 0)),(.lit (.int 1)),(.lit (.int 2)),(.tup []),(.tup [(.lit (.int 1))]),(.tup [(.lit (.int 2)),(.lit (.int 0))]),(.tup [(.tup []),(.lit (.int 1))]),(.lit (.int 3))]),
    .iff (.cmp .eq (.var 1) (.lit (.int 1))) [.asg (.one 2) (.list [(.lit (.int 3)),(.neg (.lit (.int 1))),(.tup [(.lit (.int 1)),(.lit (.int 2))]),(.lit (.int 0))])] [],
    .iff (.cmp .eq (.var 1) (.lit (.int 2))) [.asg (.one 2) (.list [(.tup [(.lit (.int 0)),(.tup [(.lit (.int 1)),(.tup [(.lit (.int 2))])])]),(.neg (.lit (.int 4))),(.lit (.int 2)),(.tup [])])] [],
    .ret (.idx (.var 2) (.op2 .mod (.var 0) (.bi .len [(.var 2)])))]⟩
noncomputable def f_l_tame:Fn:=⟨3,7,
   [.asg (.one 3) (.op2 .mod (.op2 .fdiv (.var 0) (.lit (.int 5))) (.lit (.int 8))),
    .asg (.one 4) (.call 16 [(.var 0)]),
    .iff (.or [(.cmp .eq (.var 1) (.list [])),(.cmp .eq (.var 3) (.lit (.int 0)))]) [.ret (.tup [(.lit (S [118,97,108,117,101])),(.call 19 [(.var 4),(.op2 .mod (.bi .len [(.var 2)]) (.lit (.int 3)))])])] [],
    .asg (.one 5) (.tup [(.lit (S [110,97,109,101])),(.idx (.var 1) (.op2 .mod (.var 4) (.bi .len [(.var 1)])))]),
    .iff (.cmp .lt (.var 3) (.lit (.int 3))) [.ret (.var 5)] [],
    .asg (.one 6) (.idx (.list [(.lit (S [100,111,119,110])),(.lit (S [102,105,114,115,116])),(.lit (S [114,101,115,116])),(.lit (S [114,101,115,116])),(.lit (S [100,111,119,110]))]) (.op2 .sub (.var 3) (.lit (.int 3)))),
    .iff (.and [(.cmp .eq (.var 3) (.lit (.int 7))),(.cmp .eq (.op2 .mod (.op2 .fdiv (.var 4) (.lit (.int 7))) (.lit (.int 3))) (.lit (.int 0)))]) [.ret (.tup [(.lit (S [100,111])),(.lit (S [114,101,115,116])),(.tup [(.tup [(.lit (S [100,111])),(.lit (S [114,101,115,116])),(.tup [(.var 5)])])])])] [],
    .ret (.tup [(.lit (S [100,111])),(.var 6),(.tup [(.var 5)])])]⟩
noncomputable def f_l_parts:Fn:=⟨6,8,
   [.asg (.one 6) (.list []),
    .for_ (.one 7) .range [(.var 1)] [.app (.var 6) (.call 24 [(.call 16 [(.op2 .add (.var 0) (.op2 .mul (.lit (.int 7919)) (.var 7)))]),(.var 2),(.var 3),(.var 4),(.var 5)])] [7],
    .ret (.bi .tuple [(.pl (.var 6))])]⟩
noncomputable def f_l_call:Fn:=⟨5,9,
   [.asg (.one 5) (.idx (.var 4) (.op2 .mod (.var 0) (.bi .len [(.var 4)]))),
    .asg (.one 6) (.list []),
    .for_ (.one 7) .range [(.bi .len [(.idx (.var 5) (.lit (.int 1)))])] [.asg (.one 8) (.call 16 [(.op2 .add (.var 0) (.op2 .mul (.lit (.int 7919)) (.var 7)))]),
      .iff (.idx (.idx (.var 5) (.lit (.int 2))) (.var 7)) [.app (.var 6) (.call 20 [(.var 8),(.var 3),(.var 4)])] [.app (.var 6) (.call 24 [(.var 8),(.var 1),(.var 2),(.var 3),(.var 4)])]] [7,8],
    .ret (.tup [(.lit (S [99,97,108,108])),(.idx (.var 5) (.lit (.int 0))),(.bi .tuple [(.pl (.var 6))])])]⟩
noncomputable def f_l_do:Fn:=⟨5,7,
   [.asg (.one 5) (.list [(.lit (S [112,108,117,115])),(.lit (S [109,105,110,117,115])),(.lit (S [116,105,109,101,115])),(.lit (S [111,118,101,114])),(.lit (S [108,101,115,115])),(.lit (S [115,97,109,101])),(.lit (S [106,111,105,110])),(.lit (S [102,105,114,115,116])),(.lit (S [114,101,115,116])),(.lit (S [101,109,112,116,121])),(.lit (S [100,111,119,110])),(.lit (S [108,105,115,116]))]),
    .asg (.one 5) (.idx (.var 5) (.op2 .mod (.var 0) (.lit (.int 12)))),
    .asg (.one 6) (.lit (.int 2)),
    .iff (.cmp .isin (.var 5) (.tup [(.lit (S [102,105,114,115,116])),(.lit (S [114,101,115,116])),(.lit (S [101,109,112,116,121])),(.lit (S [100,111,119,110]))])) [.asg (.one 6) (.lit (.int 1))] [],
    .iff (.cmp .eq (.var 5) (.lit (S [108,105,115,116]))) [.asg (.one 6) (.idx (.list [(.lit (.int 0)),(.lit (.int 1)),(.lit (.int 2)),(.lit (.int 3)),(.lit (.int 8)),(.lit (.int 5)),(.lit (.int 1)),(.lit (.int 2))]) (.op2 .mod (.op2 .fdiv (.var 0) (.lit (.int 12))) (.lit (.int 8))))] [],
    .iff (.cmp .gt (.var 6) (.lit (.int 3))) [.asg (.one 1) (.lit (.int 0))] [],
    .ret (.tup [(.lit (S [100,111])),(.var 5),(.call 21 [(.call 16 [(.var 0)]),(.var 6),(.var 1),(.var 2),(.var 3),(.var 4)])])]⟩
noncomputable def f_l_form:Fn:=⟨5,7,
   [.asg (.one 5) (.op2 .mod (.op2 .fdiv (.var 0) (.lit (.int 3))) (.lit (.int 13))),
    .asg (.one 6) (.call 16 [(.var 0)]),
    .iff (.or [(.cmp .eq (.var 1) (.lit (.int 0))),(.cmp .lt (.var 5) (.lit (.int 3)))]) [.iff (.and [(.cmp .ne (.var 2) (.list [])),(.cmp .gt (.op2 .mod (.var 6) (.lit (.int 4))) (.lit (.int 0)))]) [.ret (.tup [(.lit (S [110,97,109,101])),(.idx (.var 2) (.op2 .mod (.op2 .fdiv (.var 6) (.lit (.int 4))) (.bi .len [(.var 2)])))])] [],
      .ret (.tup [(.lit (S [118,97,108,117,101])),(.call 17 [(.op2 .fdiv (.var 6) (.lit (.int 4)))])])] [],
    .iff (.cmp .lt (.var 5) (.lit (.int 6))) [.ret (.op2 .add (.tup [(.lit (S [105,102]))]) (.call 21 [(.var 6),(.lit (.int 3)),(.op2 .sub (.var 1) (.lit (.int 1))),(.var 2),(.var 3),(.var 4)]))] [],
    .iff (.cmp .lt (.var 5) (.lit (.int 9))) [.ret (.call 23 [(.var 6),(.op2 .sub (.var 1) (.lit (.int 1))),(.var 2),(.var 3),(.var 4)])] [],
    .iff (.cmp .lt (.var 5) (.lit (.int 12))) [.ret (.call 22 [(.var 6),(.op2 .sub (.var 1) (.lit (.int 1))),(.var 2),(.var 3),(.var 4)])] [],
    .ret (.tup [(.lit (S [114,101,102,117,115,101])),(.idx (.list [(.lit (S [78,111,78,117,109,98,101,114])),(.lit (S [78,111,76,105,115,116])),(.lit (S [78,111,70,105,114,115,116])),(.lit (S [78,111,68,111,119,110])),(.lit (S [66,121,78,111,117,103,104,116])),(.lit (S [84,111,111,71,114,101,97,116]))]) (.op2 .mod (.var 6) (.lit (.int 6))))])]⟩
noncomputable def f_l_heads:Fn:=⟨1,10,
   [.asg (.one 1) (.call 18 [(.call 15 [(.var 0),(.lit (.int 0))])]),
    .asg (.one 2) (.list []),
    .for_ (.one 3) .range [(.op2 .add (.lit (.int 1)) (.op2 .mod (.call 15 [(.var 0),(.lit (.int 1))]) (.lit (.int 4))))] [.asg (.one 4) (.call 15 [(.var 0),(.op2 .add (.lit (.int 2)) (.var 3))]),
      .asg (.one 5) (.idx (.list [(.lit (.int 1)),(.lit (.int 2)),(.lit (.int 3)),(.lit (.int 2)),(.lit (.int 0)),(.lit (.int 6)),(.lit (.int 3))]) (.op2 .mod (.var 4) (.lit (.int 7)))),
      .asg (.one 6) (.list []),
      .for_ (.one 7) .range [(.var 5)] [.asg (.one 8) (.cmp .eq (.op2 .mod (.op2 .fdiv (.var 4) (.idx (.list [(.lit (.int 7)),(.lit (.int 14)),(.lit (.int 28)),(.lit (.int 56)),(.lit (.int 112)),(.lit (.int 224))]) (.var 7))) (.lit (.int 2))) (.lit (.int 1))),
        .app (.var 6) (.and [(.var 8),(.cmp .lt (.bi .count [(.pl (.var 6)),(.lit (.bool true))]) (.lit (.int 2)))])] [7,8],
      .app (.var 2) (.tup [(.idx (.var 1) (.var 3)),(.bi .tuple [(.comp (.idx (.var 1) (.op2 .mod (.op2 .add (.op2 .add (.lit (.int 2)) (.var 3)) (.var 9)) (.lit (.int 12)))) (.one 9) .range [(.var 5)] [])]),(.bi .tuple [(.pl (.var 6))])])] [3,4,5,6,7,8],
    .ret (.var 2)]⟩
noncomputable def f_l_program:Fn:=⟨2,13,
   [.asg (.one 2) (.list []),
    .for_ (.one 3) .range [(.bi .len [(.var 1)])] [.asg (.tup [4,5,6]) (.idx (.var 1) (.var 3)),
      .asg (.one 7) (.comp (.idx (.var 5) (.var 12)) (.one 12) .range [(.bi .len [(.var 5)])] [(.idx (.var 6) (.var 12))]),
      .asg (.one 8) (.call 16 [(.op2 .add (.op2 .mul (.call 15 [(.var 0),(.op2 .add (.lit (.int 6)) (.var 3))]) (.lit (.int 977))) (.var 3))]),
      .asg (.one 9) (.call 24 [(.var 8),(.op2 .add (.lit (.int 1)) (.op2 .mod (.op2 .fdiv (.call 15 [(.var 0),(.lit (.int 10))]) (.op2 .add (.var 3) (.lit (.int 1)))) (.lit (.int 3)))),(.bi .list [(.var 5)]),(.var 7),(.var 1)]),
      .iff (.and [(.cmp .gt (.op2 .mod (.op2 .fdiv (.call 15 [(.var 0),(.lit (.int 11))]) (.op2 .add (.var 3) (.lit (.int 1)))) (.lit (.int 3))) (.lit (.int 0))),(.cmp .gt (.bi .len [(.var 5)]) (.lit (.int 0)))]) [.asg (.one 10) (.call 16 [(.op2 .add (.var 8) (.lit (.int 31)))]),
        .asg (.one 11) (.tup [(.lit (S [110,97,109,101])),(.idx (.var 5) (.op2 .mod (.var 10) (.bi .len [(.var 5)])))]),
        .iff (.cmp .eq (.op2 .mod (.op2 .fdiv (.var 10) (.lit (.int 8))) (.lit (.int 2))) (.lit (.int 1))) [.asg (.one 11) (.tup [(.lit (S [100,111])),(.lit (S [101,109,112,116,121])),(.tup [(.var 11)])])] [],
        .asg (.one 9) (.tup [(.lit (S [105,102])),(.var 11),(.var 9),(.call 24 [(.var 10),(.lit (.int 2)),(.bi .list [(.var 5)]),(.var 7),(.var 1)])])] [],
      .app (.var 2) (.tup [(.var 4),(.var 5),(.var 9)])] [3,4,5,6,7,8,9,10,11],
    .ret (.bi .tuple [(.pl (.var 2))])]⟩
noncomputable def f_l_inputs:Fn:=⟨2,5,
   [.no,.no,.no]⟩
noncomputable def f_l_sorting:Fn:=⟨1,2,
   [.ret (.bi .dict [(.comp (.tup [(.idx (.var 1) (.lit (.int 0))),(.idx (.var 1) (.lit (.int 2)))]) (.one 1) .seq [(.var 0)] [])])]⟩
noncomputable def f_l_is_tame:Fn:=⟨2,2,
   [.iff (.cmp .isin (.idx (.var 0) (.lit (.int 0))) (.tup [(.lit (S [118,97,108,117,101])),(.lit (S [114,101,102,117,115,101]))])) [.ret (.lit (.bool true))] [],
    .iff (.cmp .eq (.idx (.var 0) (.lit (.int 0))) (.lit (S [110,97,109,101]))) [.ret (.cmp .isin (.idx (.var 0) (.lit (.int 1))) (.var 1))] [],
    .ret (.and [(.cmp .eq (.idx (.var 0) (.lit (.int 0))) (.lit (S [100,111]))),(.cmp .isin (.idx (.var 0) (.lit (.int 1))) (.tup [(.lit (S [102,105,114,115,116])),(.lit (S [114,101,115,116])),(.lit (S [100,111,119,110]))])),(.call 29 [(.idx (.idx (.var 0) (.lit (.int 2))) (.lit (.int 0))),(.var 1)])])]⟩
noncomputable def f_l_kept:Fn:=⟨3,5,
   [.iff (.cmp .isin (.idx (.var 0) (.lit (.int 0))) (.tup [(.lit (S [118,97,108,117,101])),(.lit (S [110,97,109,101])),(.lit (S [114,101,102,117,115,101]))])) [.ret (.lit (.bool true))] [],
    .asg (.one 3) (.idx (.var 0) (.lit (.int 2))),
    .iff (.cmp .eq (.idx (.var 0) (.lit (.int 0))) (.lit (S [105,102]))) [.asg (.one 3) (.slc (.var 0) (.lit (.int 1)) (.lit .none))] [],
    .for_ (.one 4) .range [(.bi .len [(.var 3)])] [.iff (.and [(.cmp .eq (.idx (.var 0) (.lit (.int 0))) (.lit (S [99,97,108,108]))),(.idx (.idx (.var 2) (.idx (.var 0) (.lit (.int 1)))) (.var 4)),(.not (.call 29 [(.idx (.var 3) (.var 4)),(.var 1)]))]) [.ret (.lit (.bool false))] [],
      .iff (.not (.call 30 [(.idx (.var 3) (.var 4)),(.var 1),(.var 2)])) [.ret (.lit (.bool false))] []] [4],
    .ret (.lit (.bool true))]⟩
noncomputable def f_l_due:Fn:=⟨2,7,
   [.for_ (.tup [2,3,4]) .seq [(.var 0)] [.asg (.one 5) (.comp (.idx (.var 3) (.var 6)) (.one 6) .range [(.bi .len [(.var 3)])] [(.idx (.idx (.var 1) (.var 2)) (.var 6))]),
      .iff (.not (.call 30 [(.var 4),(.var 5),(.var 1)])) [.ret (.lit (.bool false))] []] [2,3,4,5],
    .ret (.lit (.bool true))]⟩
noncomputable def f_l_refused:Fn:=⟨4,6,
   [.try_ [.iff (.cmp .eq (.var 0) (.lit (.int 0))) [.exp (.call 13 [(.var 1),(.var 2),(.var 3)])] [.exp (.call 14 [(.var 1),(.var 2),(.var 3)])]] [x_HalfError,x_NoNumber,x_NoList,x_NoFirst,x_NoDown,x_ByNought,x_TooGreat,x_TooLong,x_NotKept,x_NoText] 4 [.asg (.one 5) (.isx 4 [x_NoNumber,x_NoList,x_NoFirst,x_NoDown,x_ByNought,x_TooGreat,x_TooLong,x_NoText] [x_HalfError,x_NotKept]),
      .ret (.and [(.isx 4 [x_NotKept] [x_HalfError,x_NoNumber,x_NoList,x_NoFirst,x_NoDown,x_ByNought,x_TooGreat,x_TooLong,x_NoText]),(.isx 4 [x_HalfError,x_NoNumber,x_NoList,x_NoFirst,x_NoDown,x_ByNought,x_TooGreat,x_TooLong,x_NotKept,x_NoText] []),(.not (.var 5))])],
    .ret (.lit (.bool false))]⟩
noncomputable def f_l_argument:Fn:=⟨1,7,
   [.asg (.one 1) (.tup [(.lit (S [110,97,109,101])),(.idx (.list [(.lit (S [122,112])),(.lit (S [122,113]))]) (.op2 .mod (.var 0) (.lit (.int 2))))]),
    .asg (.one 2) (.op2 .fdiv (.var 0) (.lit (.int 2))),
    .asg (.one 3) (.idx (.list [(.lit (S [102,105,114,115,116])),(.lit (S [114,101,115,116])),(.lit (S [100,111,119,110])),(.lit (S [101,109,112,116,121])),(.lit (S [108,105,115,116])),(.lit (S [102,105,114,115,116])),(.lit (S [114,101,115,116])),(.lit (S [100,111,119,110]))]) (.op2 .mod (.var 2) (.lit (.int 8)))),
    .asg (.one 4) (.idx (.list [(.var 1),(.var 1),(.tup [(.lit (S [118,97,108,117,101])),(.tup [(.lit (.int 1)),(.tup [(.lit (.int 2))])])]),(.tup [(.lit (S [114,101,102,117,115,101])),(.lit (S [78,111,76,105,115,116]))])]) (.op2 .mod (.op2 .fdiv (.var 2) (.lit (.int 672))) (.lit (.int 4)))),
    .asg (.one 5) (.tup [(.lit (S [100,111])),(.var 3),(.tup [(.var 4)])]),
    .iff (.cmp .eq (.op2 .mod (.op2 .fdiv (.var 2) (.lit (.int 8))) (.lit (.int 3))) (.lit (.int 1))) [.asg (.one 5) (.tup [(.lit (S [100,111])),(.idx (.list [(.lit (S [102,105,114,115,116])),(.lit (S [114,101,115,116])),(.lit (S [100,111,119,110])),(.lit (S [101,109,112,116,121]))]) (.op2 .mod (.op2 .fdiv (.var 2) (.lit (.int 24))) (.lit (.int 4)))),(.tup [(.var 5)])])] [],
    .asg (.one 6) (.list [(.var 5),(.var 5),(.var 1),(.tup [(.lit (S [118,97,108,117,101])),(.lit (.int 3))]),(.tup [(.lit (S [114,101,102,117,115,101])),(.lit (S [78,111,68,111,119,110]))]),(.tup [(.lit (S [100,111])),(.lit (S [112,108,117,115])),(.tup [(.var 1),(.tup [(.lit (S [118,97,108,117,101])),(.lit (.int 1))])])]),(.tup [(.lit (S [105,102])),(.var 1),(.var 1),(.var 1)])]),
    .ret (.idx (.var 6) (.op2 .mod (.op2 .fdiv (.var 2) (.lit (.int 96))) (.lit (.int 7))))]⟩
noncomputable def f_l_more:Fn:=⟨2,6,
   [.asg (.one 2) (.idx (.var 1) (.op2 .mod (.call 15 [(.var 0),(.lit (.int 21))]) (.bi .len [(.var 1)]))),
    .asg (.one 3) (.bi .tuple [(.comp (.call 33 [(.call 15 [(.var 0),(.op2 .add (.lit (.int 22)) (.var 5))])]) (.one 5) .range [(.bi .len [(.idx (.var 2) (.lit (.int 1)))])] [])]),
    .asg (.one 4) (.tup [(.lit (S [99,97,108,108])),(.idx (.var 2) (.lit (.int 0))),(.var 3)]),
    .iff (.cmp .eq (.op2 .mod (.op2 .fdiv (.call 15 [(.var 0),(.lit (.int 21))]) (.lit (.int 4))) (.lit (.int 2))) (.lit (.int 1))) [.asg (.one 4) (.tup [(.lit (S [105,102])),(.tup [(.lit (S [110,97,109,101])),(.lit (S [122,112]))]),(.tup [(.lit (S [118,97,108,117,101])),(.lit (.int 0))]),(.tup [(.lit (S [100,111])),(.lit (S [108,105,115,116])),(.tup [(.tup [(.lit (S [118,97,108,117,101])),(.lit (.int 1))]),(.tup [(.lit (S [118,97,108,117,101])),(.lit (.int 2))]),(.var 4)])])])] [],
    .ret (.tup [(.lit (S [122,122])),(.tup [(.lit (S [122,112])),(.lit (S [122,113]))]),(.var 4)])]⟩
noncomputable def f_l_each_sure:Fn:=⟨0,5,
   [.asg (.one 0) (.tup [(.lit (S [110,97,109,101])),(.lit (S [98]))]),
    .asg (.one 1) (.list [(.var 0),(.tup [(.lit (S [118,97,108,117,101])),(.tup [(.lit (.int 1))])]),(.tup [(.lit (S [114,101,102,117,115,101])),(.lit (S [78,111,76,105,115,116]))]),(.tup [(.lit (S [100,111])),(.lit (S [114,101,115,116])),(.tup [(.tup [(.lit (S [100,111])),(.lit (S [102,105,114,115,116])),(.tup [(.var 0)])])])])]),
    .asg (.one 1) (.op2 .add (.var 1) (.list [(.tup [(.lit (S [100,111])),(.lit (S [102,105,114,115,116])),(.tup [(.tup [(.lit (S [118,97,108,117,101])),(.tup [(.lit (.int 1))])])])]),(.tup [(.lit (S [100,111])),(.lit (S [100,111,119,110])),(.tup [(.tup [(.lit (S [114,101,102,117,115,101])),(.lit (S [78,111,68,111,119,110]))])])])])),
    .asg (.one 2) (.list [(.tup [(.lit (S [110,97,109,101])),(.lit (S [99]))]),(.tup [(.lit (S [100,111])),(.lit (S [101,109,112,116,121])),(.tup [(.var 0)])]),(.tup [(.lit (S [100,111])),(.lit (S [108,105,115,116])),(.tup [(.var 0)])]),(.tup [(.lit (S [105,102])),(.var 0),(.var 0),(.var 0)])]),
    .asg (.one 2) (.op2 .add (.var 2) (.list [(.tup [(.lit (S [100,111])),(.lit (S [102,105,114,115,116])),(.tup [(.tup [(.lit (S [110,97,109,101])),(.lit (S [99]))])])]),(.tup [(.lit (S [100,111])),(.lit (S [112,108,117,115])),(.tup [(.var 0),(.tup [(.lit (S [118,97,108,117,101])),(.lit (.int 1))])])])])),
    .for_ (.one 3) .seq [(.op2 .add (.var 1) (.var 2))] [.asg (.one 4) (.tup [(.tup [(.lit (S [97])),(.tup [(.lit (S [98])),(.lit (S [99]))]),(.tup [(.lit (S [99,97,108,108])),(.lit (S [97])),(.tup [(.var 3),(.tup [(.lit (S [110,97,109,101])),(.lit (S [99]))])])])])]),
      .iff (.cmp .ne (.call 2 [(.var 4),(.bi (.disp [⟨#[97]⟩]) [(.tup [(.lit (.bool true)),(.lit (.bool false))])])]) (.cmp .isin (.var 3) (.var 1))) [.ret (.lit (.bool false))] []] [3,4],
    .ret (.lit (.bool true))]⟩
noncomputable def f_law:Fn:=⟨1,13,
   [.asg (.one 1) (.call 25 [(.var 0)]),
    .asg (.one 2) (.call 26 [(.var 0),(.var 1)]),
    .asg (.one 3) (.call 28 [(.var 1)]),
    .iff (.cmp .eq (.op2 .mod (.call 15 [(.var 0),(.lit (.int 20))]) (.lit (.int 2))) (.lit (.int 1))) [.asg (.one 2) (.op2 .add (.var 2) (.tup [(.call 34 [(.var 0),(.var 1)])])),
      .setI (.var 3) (.lit (S [122,122])) (.tup [(.cmp .eq (.op2 .mod (.op2 .fdiv (.call 15 [(.var 0),(.lit (.int 20))]) (.lit (.int 2))) (.lit (.int 2))) (.lit (.int 1))),(.cmp .eq (.op2 .mod (.op2 .fdiv (.call 15 [(.var 0),(.lit (.int 20))]) (.lit (.int 4))) (.lit (.int 2))) (.lit (.int 1)))])] [],
    .iff (.cmp .eq (.op2 .mod (.call 15 [(.var 0),(.lit (.int 15))]) (.lit (.int 2))) (.lit (.int 1))) [.for_ (.one 4) .range [(.bi .len [(.var 1)])] [.asg (.one 5) (.call 15 [(.var 0),(.op2 .add (.lit (.int 16)) (.var 4))]),
        .setI (.var 3) (.idx (.idx (.var 1) (.var 4)) (.lit (.int 0))) (.bi .tuple [(.comp (.cmp .eq (.op2 .mod (.op2 .fdiv (.var 5) (.idx (.list [(.lit (.int 1)),(.lit (.int 2)),(.lit (.int 4)),(.lit (.int 8)),(.lit (.int 16)),(.lit (.int 32))]) (.var 11))) (.lit (.int 2))) (.lit (.int 1))) (.one 11) .range [(.bi .len [(.idx (.idx (.var 1) (.var 4)) (.lit (.int 1)))])] [])])] [4,5]] [],
    .asg (.one 6) (.call 31 [(.var 2),(.var 3)]),
    .asg (.one 7) (.bi .dict [(.pl (.var 3))]),
    .for_ (.one 8) .range [(.lit (.int 2))] [.asg (.one 9) (.call 2 [(.var 2),(.var 7)]),
      .iff (.or [(.not (.bi (.isi .bool) [(.var 9)])),(.cmp .ne (.var 9) (.var 6)),(.cmp .ned (.var 7) (.pl (.var 3)))]) [.ret (.lit (.bool false))] []] [8,9],
    .iff (.not (.call 35 [])) [.ret (.lit (.bool false))] [],
    .iff (.var 6) [.ret (.lit (.bool true))] [],
    .asg (.one 10) (.bi .tuple [(.comp (.lit (.int 1)) (.one 12) .seq [(.idx (.pl (.var 3)) (.idx (.idx (.var 1) (.lit (.int 0))) (.lit (.int 0))))] [(.var 12)])]),
    .ret (.and [(.call 32 [(.lit (.int 0)),(.var 2),(.var 3),(.var 10)]),(.call 32 [(.lit (.int 1)),(.var 2),(.var 3),(.var 10)])])]⟩
noncomputable def P:Pr:=⟨[g_TAME,g_GREAT,g_HEAVIEST,g_SINGLES],[f_calls_in,f_is_tame,f_keeps,f_room_left,f_is_value,f_fitting,f_number_done,f_down,f_list_done,f_joined,f_done,f_worked_out,f_worked,f_left_over,f_cases,f_l_cell_at,f_l_next,f_l_value,f_l_names,f_l_few,f_l_tame,f_l_parts,f_l_call,f_l_do,f_l_form,f_l_heads,f_l_program,f_l_inputs,f_l_sorting,f_l_is_tame,f_l_kept,f_l_due,f_l_refused,f_l_argument,f_l_more,f_l_each_sure,f_law]⟩
noncomputable def nss:List (List Str):=[(["expression","parts","found","part"] :List Str),
  (["expression","known"] :List Str),
  (["program","sorting","name","parameters","body","known","call","part","is_known"] :List Str),
  (["thing","room","is_number","left","part"] :List Str),
  (["thing"] :List Str),
  (["thing"] :List Str),
  (["operation","one","other"] :List Str),
  (["value"] :List Str),
  (["operation","value"] :List Str),
  (["value","other"] :List Str),
  (["operation","values"] :List Str),
  (["operation","values","value"] :List Str),
  (["program","sorting","known","making","functions","triples","number","case"] :List Str),
  (["program","sorting","known"] :List Str),
  (["program","sorting","known"] :List Str),
  (["_law_script","_law_k"] :List Str),
  (["_law_pick","_law_more_here"] :List Str),
  (["_law_pick","_law_some"] :List Str),
  (["_law_cell","_law_some","_law_size","_law_place","_law_found","_law_k","_law_sign"] :List Str),
  (["_law_pick","_law_way","_law_some"] :List Str),
  (["_law_pick","_law_known","_law_heads_here","_law_way","_law_more_here","_law_name","_law_word"] :List Str),
  (["_law_pick","_law_many","_law_deep","_law_names_here","_law_known","_law_heads_here","_law_found","_law_k"] :List Str),
  (["_law_pick","_law_deep","_law_names_here","_law_known","_law_heads_here","_law_head","_law_parts_here","_law_k","_law_more_here"] :List Str),
  (["_law_pick","_law_deep","_law_names_here","_law_known","_law_heads_here","_law_word","_law_many"] :List Str),
  (["_law_pick","_law_deep","_law_names_here","_law_known","_law_heads_here","_law_way","_law_more_here"] :List Str),
  (["_law_script","_law_names_here","_law_found","_law_k","_law_cell","_law_many","_law_wanted","_law_j","_law_known"] :List Str),
  (["_law_script","_law_heads_here","_law_program_here","_law_k","_law_name","_law_params","_law_wanted","_law_known","_law_pick","_law_body","_law_more_here","_law_test"] :List Str),
  (["_law_script","_law_many","_law_found","_law_k","_law_cell"] :List Str),
  (["_law_heads_here"] :List Str),
  (["_law_form_here","_law_known"] :List Str),
  (["_law_form_here","_law_known","_law_sorting_here","_law_parts_here","_law_k"] :List Str),
  (["_law_program_here","_law_sorting_here","_law_name","_law_params","_law_body","_law_known"] :List Str),
  (["_law_way","_law_program_here","_law_sorting_here","_law_known","e","_law_others"] :List Str),
  (["_law_cell","_law_p","_law_more_here","_law_word","_law_within","_law_one","_law_some"] :List Str),
  (["_law_script","_law_heads_here","_law_head","_law_parts_here","_law_body"] :List Str),
  (["_law_b","_law_tame_here","_law_other","_law_one","_law_program_here"] :List Str),
  (["_law_script","_law_heads_here","_law_program_here","_law_sorting_here","_law_k","_law_cell","_law_due_here","_law_handed","_law_turn","_law_found","_law_known"] :List Str)]
noncomputable def gls:List Str:=["TAME","GREAT","HEAVIEST","SINGLES"]
noncomputable def cls:List Str:=[x_HalfError,x_NoNumber,x_NoList,x_NoFirst,x_NoDown,x_ByNought,x_TooGreat,x_TooLong,x_NotKept,x_NoText]
noncomputable def sb:List (Str×List Str×List Str):=[(x_HalfError,[x_HalfError,x_NoNumber,x_NoList,x_NoFirst,x_NoDown,x_ByNought,x_TooGreat,x_TooLong,x_NotKept,x_NoText],[]),(x_NotKept,[x_NotKept],[x_HalfError,x_NoNumber,x_NoList,x_NoFirst,x_NoDown,x_ByNought,x_TooGreat,x_TooLong,x_NoText]),(⟨#[86,97,108,117,101,69,114,114,111,114]⟩,[x_HalfError,x_NoNumber,x_NoList,x_NoFirst,x_NoDown,x_ByNought,x_TooGreat,x_TooLong,x_NotKept,x_NoText],[])]
noncomputable def sbt:List (List Str×List Str×List Str):=[([x_NoNumber,x_NoList,x_NoFirst,x_NoDown,x_ByNought,x_TooGreat,x_TooLong,x_NoText],[x_NoNumber,x_NoList,x_NoFirst,x_NoDown,x_ByNought,x_TooGreat,x_TooLong,x_NoText],[x_HalfError,x_NotKept])]
end Lq
end
section
open PySem PySem.W PyProof.Rows Mv
set_option maxHeartbeats 8000000
namespace Lq
theorem chk:fnsB ⟨recsOf Hq.view,gls,cls,sb,sbt⟩ (recsOf Hq.view) P.fns nss=true:=by decide +kernel
theorem chkF:freeB Hq.view (looseW Hq.view Hq.loose)=true:=by decide +kernel
theorem chkC:(cls.all fun k=>(ownsOf Hq.view).any fun o=>decide (o.name = k) && decide (o.newId = "ValueError.__new__") && (o.bm == [.type "ValueError",.type "Exception",.type "BaseException",.type "object"])) = true:=by decide +kernel
noncomputable def VOf (K:Frag) (x:Str) :Value:=(glOf K x).getD (.type "ValueError")
theorem chkA (P:Params) :(sb.all fun e=>entB (Hq.K P) (glOf (Hq.K P)) (VOf (Hq.K P) e.1) e.2.1 e.2.2&&((glOf (Hq.K P) e.1).isSome||decide (e.1=(⟨#[86,97,108,117,101,69,114,114,111,114]⟩ :Str))))=true:=by kernel_rfl
theorem chkT (P:Params) :(sbt.all fun e=>entT (Hq.K P) (glOf (Hq.K P)) (e.1.map (VOf (Hq.K P))) e.2.1 e.2.2&&e.1.all fun x=>(glOf (Hq.K P) x).isSome)=true:=by kernel_rfl
theorem bootVE:bootBuiltins (⟨#[86,97,108,117,101,69,114,114,111,114]⟩ :Str) = some (.type "ValueError"):=by kernel_rfl
theorem kG (P:Params) :∃c d es ep sl,(Hq.K P).lookup mainGlobals=some ⟨c,d,.dict es ep,sl⟩:=⟨_,_,_,_,_,rfl⟩
end Lq
end
section
namespace Lq
open PySem Mv
noncomputable def goodN (i:Int) :Bool:=decide (-1000000000000000000<i)&&decide (i<1000000000000000000)
mutual
noncomputable def dep:D→Nat
  | .tuple ds=>deps ds+1
  | _=>0
noncomputable def deps:List D→Nat
  | []=>0
  | d::ds=>max (dep d) (deps ds)
end
mutual
noncomputable def wt:D→Nat
  | .tuple ds=>1+wts ds
  | _=>1
noncomputable def wts:List D→Nat
  | []=>0
  | d::ds=>wt d+wts ds
end
mutual
noncomputable def good:D→Bool
  | .tuple ds=>goods ds
  | .int i=>goodN i
  | _=>false
noncomputable def goods:List D→Bool
  | []=>true
  | d::ds=>good d&&goods ds
end
inductive Ex12 {α:Sort _} (A B:α→Prop) :Prop
  | mk (x:α) :A x→B x→Ex12 A B
inductive Ex13 {α:Sort _} (A B C:α→Prop) :Prop
  | mk (x:α) :A x→B x→C x→Ex13 A B C
inductive Ex22 {α β:Sort _} (A B:α→β→Prop) :Prop
  | mk (x:α) (y:β) :A x y→B x y→Ex22 A B
inductive Ex23 {α β:Sort _} (A B C:α→β→Prop) :Prop
  | mk (x:α) (y:β) :A x y→B x y→C x y→Ex23 A B C
theorem mulI_l {a b:Int} (ha:a.natAbs<2 ^ 64) :mulI a b=some (.fz (.int (a*b))):=by
  unfold mulI mulOk; rw [decide_eq_true ha]; rfl
theorem mulI_r {a b:Int} (hb:b.natAbs<2 ^ 64) :mulI a b=some (.fz (.int (a*b))):=by
  unfold mulI mulOk; rw [decide_eq_true hb,Bool.or_true]; rfl
noncomputable def Vl (d:D) :Prop:=good d=true∧dep d≤5∧wt d≤50
theorem Vl.int {i:Int} (h1: -1000000000000000000<i) (h2:i<1000000000000000000) :Vl (.int i):=⟨by show goodN i=true; unfold goodN; rw [decide_eq_true h1,decide_eq_true h2]; rfl,by show 0≤5; decide,by show 1≤50; decide⟩
theorem fm (a:Int) (m:Int) (h0:0<m) :0≤a.fmod m∧a.fmod m<m:=⟨Int.fmod_nonneg_of_pos a h0,Int.fmod_lt_of_pos a h0⟩
noncomputable def smallI (d:D) :Prop:= ∃i:Int,d = .int i∧0≤i∧i<1000
theorem small_goods:∀ {ds:List D},(∀d∈ds,smallI d)→goods ds=true∧deps ds=0∧wts ds=ds.length
  | []=>@fun J=>⟨rfl,rfl,rfl⟩
  | d::ds=>@fun h=>by
    obtain ⟨i,rfl,h0,h1⟩:=h d List.mem_cons_self
    obtain ⟨a,b,c⟩:=small_goods fun x hx=>h x (List.mem_cons_of_mem _ hx)
    refine ⟨?_,?_,?_⟩
    · show (goodN i&&goods ds)=true
      unfold goodN
      rw [a,decide_eq_true (by exact (lin [] [i] 1 (.le (.a (.g (.c 1000000000000000000)) (.c 1)) (.v 0)) [(1,.le (.c 0) (.v 0))] rfl h0)),decide_eq_true (by exact (lin [] [i] 1 (.le (.a (.v 0) (.c 1)) (.c 1000000000000000000)) [(1,.le (.a (.v 0) (.c 1)) (.c 1000))] rfl h1))]; rfl
    · show max 0 (deps ds)=0
      exact (Nat.le_antisymm (Nat.max_le.mpr ⟨(lin [] [] 1 (.nle (.c 0) (.c 0)) [] rfl),(lin [deps ds] [] 1 (.nle (.v 0) (.c 0)) [(1,.neq (.v 0) (.c 0))] rfl b)⟩) (lin [max (0:Nat) (deps ds)] [] 1 (.nle (.c 0) (.v 0)) [] rfl))
    · show 1+wts ds=ds.length+1
      exact (Nat.le_antisymm (lin [wts ds,ds.length] [] 1 (.nle (.a (.c 1) (.v 0)) (.a (.v 1) (.c 1))) [(1,.neq (.v 0) (.v 1))] rfl c) (lin [ds.length,wts ds] [] 1 (.nle (.a (.v 0) (.c 1)) (.a (.c 1) (.v 1))) [(-1,.neq (.v 1) (.v 0))] rfl c))
theorem Vl.smalls {ds:List D} (h:∀d∈ds,smallI d) (hl:ds.length≤49) :Vl (.tuple ds):=by
  obtain ⟨a,b,c⟩:=small_goods h
  exact ⟨a,by show deps ds+1≤5; exact (lin [deps ds] [] 1 (.nle (.a (.v 0) (.c 1)) (.c 5)) [(1,.neq (.v 0) (.c 0))] rfl b),by show 1+wts ds≤50; exact (lin [wts ds,ds.length] [] 1 (.nle (.a (.c 1) (.v 0)) (.c 50)) [(1,.nle (.v 1) (.c 49)),(1,.neq (.v 0) (.v 1))] rfl hl c)⟩
theorem idx_map (xs:List Int) (i:Int) (h0:0≤i) (h1:i<xs.length) :∃c,idxOf (xs.map PyData.int) i=some (.int c):=by
  unfold idxOf
  rw [if_pos h0]
  have hl:i.toNat<(xs.map PyData.int).length:=by rw [List.length_map]; exact (lin [i.toNat,xs.length] [i] 1 (.nle (.a (.v 0) (.c 1)) (.v 1)) [(1,.le (.a (.v 0) (.c 1)) (.n (.v 1))),(1,.eq (.n (.v 0)) (.v 0))] rfl h1 (Int.toNat_of_nonneg (a:=i) h0))
  exact ⟨xs[i.toNat]'(by simpa using hl),by rw [List.getElem?_eq_getElem hl]; simp⟩
theorem cell (n:Nat) (xs:List Int) (i:Int) (h0:0≤i) :∃c,cF P (n+1) false 15 [.fz (.list (xs.map .int)),.fz (.int i)]=some (.ok (.fz (.int c)),[]):=by
  by_cases q:i<xs.length
  · obtain ⟨c,hc⟩:=idx_map xs i h0 q
    exact ⟨c,by exact wkF [.b 1 (show cmpD Cm.lt (PyData.int i) (PyData.int (↑(List.map PyData.int xs).length:Int))=some true by simp only [List.length_map,c_lt,q,decide_true]),.d 1 (hc)] rfl (by kernel_rfl)⟩
  · exact ⟨0,by exact wkF [.b 1 (show cmpD Cm.lt (PyData.int i) (PyData.int (↑(List.map PyData.int xs).length:Int))=some false by simp only [List.length_map,c_lt,q,decide_false])] rfl (by kernel_rfl)⟩
theorem v_loop (n:Nat) (pick:Int) (s1:Slot) :∀(ks:List Nat) (s2:Slot),(∀k∈ks,k<20)→
    ∃rs,compB ⟨P.glob,cF P n,[],false⟩ [.fz (.int pick),s1,s2] (.op2 .mod (.op2 .fdiv (.var 0) (.lit (.int 16))) (.op2 .add (.var 2) (.lit (.int 2)))) (.one 2) [] (ks.map fun (k:Nat)=>.int (0+k))=some (.ok rs,[.fz (.int pick),s1,.no])∧rs.length=ks.length∧ ∀d∈rs,smallI d
  | []=>@fun s2 J=>⟨[],by rw [List.map_nil,compB_nil]; rfl,rfl,fun J h=>by cases h⟩
  | k::ks=>@fun s2 hk=>by
    have hk0:=hk k List.mem_cons_self
    obtain ⟨rs,h,hl,hs⟩:=v_loop n pick s1 ks (.fz (.int (0+k))) fun j hj=>hk j (List.mem_cons_of_mem _ hj)
    have hf:=fm (pick.fdiv 16) (0+k+2) (by exact (lin [k] [] 1 (.le (.a (.c 0) (.c 1)) (.a (.a (.c 0) (.n (.v 0))) (.c 2))) [] rfl))
    refine ⟨.int ((pick.fdiv 16).fmod (0+k+2))::rs,?_,congrArg (· + 1) hl,fun d hd=>?_⟩
    · have h0:¬((0:Int)+k+2=0):=by exact (fun mvo14=>(linF [k] [] [(1,.eq (.a (.a (.c 0) (.n (.v 0))) (.c 2)) (.c 0))] rfl mvo14))
      exact wkC [.cp 3 (h)] rfl (by kernel_rfl)
    · rcases List.mem_cons.mp hd with rfl | hd
      · exact ⟨_,rfl,hf.1,by exact (lin [k] [(pick.fdiv (16:Int)).fmod ((0:Int)+(↑k:Int)+(2:Int))] 1 (.le (.a (.v 0) (.c 1)) (.c 1000)) [(1,.nle (.a (.v 0) (.c 1)) (.c 20)),(1,.le (.a (.v 0) (.c 1)) (.a (.a (.c 0) (.n (.v 0))) (.c 2)))] rfl hk0 (hf).2)⟩
      · exact hs d hd
noncomputable abbrev somes:List D:=[.int 0,.int 1,.int 2,.int 3,.int 5,.int (-1),.int (-4),.tuple [],.tuple [.int 1],.tuple [.int 2,.int 0],.tuple [.int 1,.int 2,.int 3],.tuple [.tuple [],.int 1],.tuple [.tuple [.int 1,.int 2],.tuple [.int 3]],.tuple [.int 4,.tuple [.int 5,.tuple [.int 6]]]]
theorem idx_mem {α:Type} {xs:List α} {r:Int} (h0:0≤r) (h1:r<xs.length) :Ex12 (fun d=>idxOf xs r=some d) (fun d=>d∈xs):=by
  unfold idxOf
  rw [if_pos h0]
  have hl:r.toNat<xs.length:=by exact (lin [r.toNat,xs.length] [r] 1 (.nle (.a (.v 0) (.c 1)) (.v 1)) [(1,.le (.a (.v 0) (.c 1)) (.n (.v 1))),(1,.eq (.n (.v 0)) (.v 0))] rfl h1 (Int.toNat_of_nonneg (a:=r) h0))
  exact ⟨xs[r.toNat],List.getElem?_eq_getElem hl,List.getElem_mem hl⟩
noncomputable def vlB (d:D) :Bool:=good d&&decide (dep d≤5)&&decide (wt d≤50)
theorem vlB_ok {d:D} (h:vlB d=true) :Vl d:=by
  unfold vlB at h
  rw [Bool.and_eq_true,Bool.and_eq_true] at h
  exact ⟨h.1.1,of_decide_eq_true h.1.2,of_decide_eq_true h.2⟩
theorem somes_all:somes.all vlB=true:=by kernel_rfl
theorem somes_get (r:Int) (h0:0≤r) (h1:r<14) :Ex12 (fun d=>idxOf somes r=some d) (fun d=>Vl d):=by
  obtain ⟨d,h,m⟩:=idx_mem (xs:=somes) h0 h1
  exact ⟨d,h,vlB_ok (List.all_eq_true.mp somes_all d m)⟩
theorem value_eq (n:Nat) (pick:Int) :Ex12 (fun d=>cF P (n+1) false 17 [.fz (.int pick)]=some (.ok (.fz d),[])) (fun d=>Vl d):=by
  have h16:=fm pick 16 (by decide)
  by_cases q:pick.fmod 16=14
  · have hf:=fm (pick.fdiv 16) 1999999999999999999 (by decide)
    exact ⟨.int ((pick.fdiv 16).fmod 1999999999999999999 - 1000000000000000000+1),by exact wkF [.b 1 (show cmpD Cm.eq (PyData.int (pick.fmod (16:Int))) (PyData.int (14:Int))=some true by simp only [q,c_eqI,decide_true])] rfl (by kernel_rfl),.int (by exact (lin [] [(pick.fdiv (16:Int)).fmod (1999999999999999999:Int)] 1 (.le (.a (.g (.c 1000000000000000000)) (.c 1)) (.a (.s (.v 0) (.c 1000000000000000000)) (.c 1))) [(1,.le (.c 0) (.v 0))] rfl (hf).1)) (by exact (lin [] [(pick.fdiv (16:Int)).fmod (1999999999999999999:Int)] 1 (.le (.a (.a (.s (.v 0) (.c 1000000000000000000)) (.c 1)) (.c 1)) (.c 1000000000000000000)) [(1,.le (.a (.v 0) (.c 1)) (.c 1999999999999999999))] rfl (hf).2))⟩
  · by_cases q2:pick.fmod 16=15
    · have hf:=fm (pick.fdiv 16) 9 (by decide)
      have ht: -1000000000≤(pick.fdiv 16).fmod 9∧(pick.fdiv 16).fmod 9≤(Sz:Nat):=⟨by exact (lin [] [(pick.fdiv (16:Int)).fmod (9:Int)] 1 (.le (.g (.c 1000000000)) (.v 0)) [(1,.le (.c 0) (.v 0))] rfl (hf).1),by show (pick.fdiv 16).fmod 9≤16777216; exact (lin [] [(pick.fdiv (16:Int)).fmod (9:Int)] 1 (.le (.v 0) (.c 16777216)) [(1,.le (.a (.v 0) (.c 1)) (.c 9))] rfl (hf).2)⟩
      obtain ⟨rs,h,hl,hs⟩:=v_loop n pick (.own (.list somes)) (List.range ((pick.fdiv 16).fmod 9).toNat) .no fun k hk=>by have:=List.mem_range.mp hk; exact (lin [k,((pick.fdiv (16:Int)).fmod (9:Int)).toNat] [(pick.fdiv (16:Int)).fmod (9:Int)] 1 (.nle (.a (.v 0) (.c 1)) (.c 20)) [(1,.le (.a (.v 0) (.c 1)) (.c 9)),(1,.nle (.a (.v 0) (.c 1)) (.v 1)),(1,.eq (.n (.v 1)) (.v 0))] rfl (hf).2 this (Int.toNat_of_nonneg (a:=(pick.fdiv (16:Int)).fmod (9:Int)) ((hf).1)))
      exact ⟨.tuple rs,by exact wkF [.b 1 (show cmpD Cm.eq (PyData.int (pick.fmod (16:Int))) (PyData.int (14:Int))=some false by simp only [q2,c_eqI,Int.reduceEq,decide_false]),.b 2 (show cmpD Cm.eq (PyData.int (pick.fmod (16:Int))) (PyData.int (15:Int))=some true by simp only [q2,c_eqI,decide_true]),.l 3 (show iterD Itk.range [PyData.int ((pick.fdiv (16:Int)).fmod (9:Int))]=some (rangeL (0:Int) ((pick.fdiv (16:Int)).fmod (9:Int)).toNat) by simp only [it_range,Int.reduceNeg,ht,and_self,if_true]),.cp 0 (h)] rfl (by kernel_rfl),.smalls hs (by rw [hl,List.length_range]; exact (lin [((pick.fdiv (16:Int)).fmod (9:Int)).toNat] [(pick.fdiv (16:Int)).fmod (9:Int)] 1 (.nle (.v 0) (.c 49)) [(1,.le (.a (.v 0) (.c 1)) (.c 9)),(1,.eq (.n (.v 0)) (.v 0))] rfl (hf).2 (Int.toNat_of_nonneg (a:=(pick.fdiv (16:Int)).fmod (9:Int)) ((hf).1))))⟩
    · obtain ⟨d,hd,hv⟩:=somes_get (pick.fmod 16) h16.1 (by exact (Or.elim (Int.lt_or_gt_of_ne q) (fun mvs6=>mvs6) (fun mvs6=>(Or.elim (Int.lt_or_gt_of_ne q2) (fun mvs7=>(lin [] [pick.fmod (16:Int)] 0 (.le (.a (.v 0) (.c 1)) (.c 14)) [(1,.le (.a (.c 14) (.c 1)) (.v 0)),(1,.le (.a (.v 0) (.c 1)) (.c 15))] rfl mvs6 mvs7)) (fun mvs7=>(lin [] [pick.fmod (16:Int)] 0 (.le (.a (.v 0) (.c 1)) (.c 14)) [(1,.le (.a (.v 0) (.c 1)) (.c 16)),(1,.le (.a (.c 15) (.c 1)) (.v 0))] rfl (h16).2 mvs7))))))
      exact ⟨d,by exact wkF [.b 1 (show cmpD Cm.eq (PyData.int (pick.fmod (16:Int))) (PyData.int (14:Int))=some false by simp only [c_eqI,q,decide_false]),.b 2 (show cmpD Cm.eq (PyData.int (pick.fmod (16:Int))) (PyData.int (15:Int))=some false by simp only [c_eqI,q2,decide_false]),.d 2 (hd)] rfl (by kernel_rfl),hv⟩
end Lq
end
section
namespace Lq
open PySem Mv
noncomputable abbrev k_plus:Str:=⟨[112,108,117,115].toArray⟩
noncomputable abbrev k_minus:Str:=⟨[109,105,110,117,115].toArray⟩
noncomputable abbrev k_times:Str:=⟨[116,105,109,101,115].toArray⟩
noncomputable abbrev k_over:Str:=⟨[111,118,101,114].toArray⟩
noncomputable abbrev k_less:Str:=⟨[108,101,115,115].toArray⟩
noncomputable abbrev k_same:Str:=⟨[115,97,109,101].toArray⟩
noncomputable abbrev k_join:Str:=⟨[106,111,105,110].toArray⟩
noncomputable abbrev k_down:Str:=⟨[100,111,119,110].toArray⟩
noncomputable abbrev k_first:Str:=⟨[102,105,114,115,116].toArray⟩
noncomputable abbrev k_rest:Str:=⟨[114,101,115,116].toArray⟩
noncomputable abbrev k_empty:Str:=⟨[101,109,112,116,121].toArray⟩
noncomputable abbrev k_list:Str:=⟨[108,105,115,116].toArray⟩
noncomputable abbrev k_if:Str:=⟨[105,102].toArray⟩
noncomputable abbrev k_refuse:Str:=⟨[114,101,102,117,115,101].toArray⟩
noncomputable abbrev k_value:Str:=⟨[118,97,108,117,101].toArray⟩
noncomputable abbrev k_name:Str:=⟨[110,97,109,101].toArray⟩
noncomputable abbrev k_do:Str:=⟨[100,111].toArray⟩
noncomputable abbrev k_call:Str:=⟨[99,97,108,108].toArray⟩
noncomputable abbrev pairsS:List Str:=[k_plus,k_minus,k_times,k_over,k_less,k_same,k_join]
noncomputable abbrev singS:List Str:=[k_down,k_first,k_rest,k_empty]
noncomputable abbrev wordsS:List Str:=[⟨[78,111,78,117,109,98,101,114].toArray⟩,⟨[78,111,76,105,115,116].toArray⟩,⟨[78,111,70,105,114,115,116].toArray⟩,⟨[78,111,68,111,119,110].toArray⟩,⟨[66,121,78,111,117,103,104,116].toArray⟩,⟨[84,111,111,71,114,101,97,116].toArray⟩]
noncomputable abbrev lettersN:List Nat:=[97,98,99,100,101,102,103,104,105,106,107,108,109,110,111,112,113,114,115,116,117,118,119,120,121,122]
noncomputable abbrev figuresN:List Nat:=[48,49,50,51,52,53,54,55,56,57]
noncomputable def memS (x:Str) (l:List Str) :Bool:=l.any fun y=>decide (y=x)
theorem memS_iff {x:Str} {l:List Str} :memS x l=true↔x∈l:=by
  unfold memS
  rw [List.any_eq_true]
  exact ⟨fun ⟨y,hy,h⟩=>of_decide_eq_true h▸hy,fun h=>⟨x,h,decide_eq_true rfl⟩⟩
theorem anyEq_strs (x:Str) :∀l:List Str,anyEq (.str x) (l.map .str)=some (memS x l)
  | []=>rfl
  | y::l=>by
    show (match eqD (.str y) (.str x) with | none=>none | some b=>match anyEq (.str x) (l.map .str) with | none=>none | some c=>some (b||c))=_
    rw [e_strD,anyEq_strs x l]; rfl
theorem in_strT (x:Str) (l:List Str) :inD (.str x) (.tuple (l.map .str))=some (memS x l):=by
  show (if noDict (.str x)=true then anyEq (.str x) (l.map .str) else none)=_
  rw [if_pos (show noDict (.str x)=true from rfl),anyEq_strs]
theorem in_strL (x:Str) (l:List Str) :inD (.str x) (.list (l.map .str))=some (memS x l):=by
  show (if noDict (.str x)=true then anyEq (.str x) (l.map .str) else none)=_
  rw [if_pos (show noDict (.str x)=true from rfl),anyEq_strs]
noncomputable def isOp (x:Str) :Bool:=memS x pairsS||(memS x singS||decide (x=k_list))
noncomputable def takesB (x:Str) (m:Int) :Bool:=if x=k_list then decide (m≤8) else m==(if memS x pairsS=true then 2 else 1)
end Lq
end
section
namespace Lq
open PySem Mv
noncomputable def signB (c:Nat) :Bool:=lettersN.contains c||figuresN.contains c
noncomputable def headL (x:Str) :Bool:=match x.cps.toList with
  | c::_=>lettersN.contains c
  | []=>false
noncomputable def isName (x:Str) :Bool:=decide (1≤x.cps.size)&&(decide (x.cps.size≤8)&&(headL x&&(!isOp x&&(!decide (x=k_if)&&(!decide (x=k_refuse)&&x.cps.toList.all signB)))))
end Lq
end
section
namespace Lq
open PySem Mv
inductive T where
  | val (d:D) | nam (x:Str) | ref (x:Str) | iff (ps:List T) | doo (op:Str) (ps:List T) | call (f:Str) (ps:List T) | odd (b:Bool)
mutual
noncomputable def enc:T→D
  | .val d=>.tuple [.str k_value,d]
  | .nam x=>.tuple [.str k_name,.str x]
  | .ref x=>.tuple [.str k_refuse,.str x]
  | .iff ps=>.tuple (.str k_if::encs ps)
  | .doo op ps=>.tuple [.str k_do,.str op,.tuple (encs ps)]
  | .call f ps=>.tuple [.str k_call,.str f,.tuple (encs ps)]
  | .odd true=>.tuple [.str k_value,.int 1,.int 1]
  | .odd false=>.tuple [.str ⟨[115,116,111,112].toArray⟩,.int 1]
noncomputable def encs:List T→List D
  | []=>[]
  | t::ts=>enc t::encs ts
end
theorem encs_map (ts:List T) :encs ts=ts.map enc:=by
  induction ts with
  | nil=>rfl
  | cons t ts ih=>show enc t::encs ts=_; rw [ih]; rfl
mutual
noncomputable def dpT:T→Nat
  | .val d=>dep d
  | .iff ps=>dpTs ps
  | .doo _ ps=>dpTs ps
  | .call _ ps=>dpTs ps
  | _=>0
noncomputable def dpTs:List T→Nat
  | []=>0
  | t::ts=>max (dpT t) (dpTs ts)
end
noncomputable def cnt (cs:List (Str×Nat)) (f:Str) :Option Nat:=(cs.find? fun p=>decide (p.1=f)).map (·.2)
noncomputable abbrev encN (l:List Str) :D:=.tuple (l.map .str)
noncomputable def isb (ns:List Str) (cs:List (Str×Nat)) :Nat→T→Bool
  | 0,_=>false
  | r+1,t=>match t with
    | .val d=>good d&&decide (wt d≤50)
    | .nam x=>memS x ns
    | .ref x=>memS x wordsS
    | .iff ps=>decide (ps.length=3)&&ps.all (isb ns cs r)
    | .doo op ps=>isOp op&&(takesB op ps.length&&ps.all (isb ns cs r))
    | .call f ps=>decide (cnt cs f=some ps.length)&&ps.all (isb ns cs r)
    | .odd _=>false
theorem clamp_nat (n k:Nat) (h:k≤n) :clampI n (k:Int)=k:=by
  unfold clampI clipAt
  rw [if_neg (Int.not_lt.mpr (Int.natCast_nonneg k)),Int.min_eq_left (Int.ofNat_le.mpr h),Int.max_eq_right (Int.natCast_nonneg k),Int.toNat_natCast]
theorem cut_rest (d:D) (ds:List D) :cutL (d::ds) (clampI (d::ds).length 1) (d::ds).length=ds:=by
  have e:clampI (d::ds).length 1=1:=clamp_nat _ 1 (Nat.succ_le_succ (Nat.zero_le _))
  rw [e]; unfold cutL; simp
theorem slc_rest (d:D) (ds:List D) :slcD (.tuple (d::ds)) (.int 1) .none=some (.fz (.tuple ds)):=by
  show some (Rv.fz (.tuple (cutL (d::ds) (clampI (d::ds).length 1) (d::ds).length)))=_
  rw [cut_rest]
theorem in_vnr (x:Str) :inD (.str x) (.tuple [.str k_value,.str k_name,.str k_refuse])=some (memS x [k_value,k_name,k_refuse]):=in_strT x [k_value,k_name,k_refuse]
theorem sz0 (k:Nat) :((((k+1:Nat) :Int))==0)=false:=by
  have:¬(((k+1:Nat) :Int)=0):=by exact (fun mvo2=>(linF [k] [] [(1,.eq (.n (.a (.v 0) (.c 1))) (.c 0))] rfl mvo2))
  simpa using this
theorem m_v:memS k_value [k_value,k_name,k_refuse]=true:=by kernel_rfl
theorem m_n:memS k_name [k_value,k_name,k_refuse]=true:=by kernel_rfl
theorem m_r:memS k_refuse [k_value,k_name,k_refuse]=true:=by kernel_rfl
theorem m_i:memS k_if [k_value,k_name,k_refuse]=false:=by kernel_rfl
theorem m_d:memS k_do [k_value,k_name,k_refuse]=false:=by kernel_rfl
theorem m_c:memS k_call [k_value,k_name,k_refuse]=false:=by kernel_rfl
theorem encs_len (ts:List T) :(encs ts).length=ts.length:=by rw [encs_map,List.length_map]
end Lq
end
section
namespace Lq
open PySem Mv
noncomputable abbrev Fun:=Str×List Str×T
noncomputable abbrev encF (f:Fun) :D:=.tuple [.str f.1,encN f.2.1,enc f.2.2]
noncomputable abbrev encP (p:List Fun) :D:=.tuple (p.map encF)
noncomputable abbrev ct (f:Fun) :Str×Nat:=(f.1,f.2.1.length)
theorem nd_rev {l:List Str} :l.reverse.Nodup↔l.Nodup:=by
  unfold List.Nodup
  rw [List.pairwise_reverse]
  exact ⟨fun h=>h.imp fun q e=>q e.symm,fun h=>h.imp fun q e=>q e.symm⟩
set_option tactic.hygienic true in
theorem dist_nodup {l:List Str} (h:distinct l.reverse=l.length) :l.Nodup:=by
  suffices H:∀l:List Str,distinct l=l.length→l.Nodup by
    have:=H l.reverse (by rw [List.length_reverse]; exact h)
    exact (nd_rev.mp this)
  intro l
  induction l with
  | nil=>intro _; exact List.nodup_nil
  | cons x l ih=>
    intro h
    have hle:distinct l≤l.length:=by
      clear ih h
      induction l with
      | nil=>exact Nat.le_refl _
      | cons y l ih=>show (if l.contains y then distinct l else distinct l+1)≤l.length+1; split <;> (first | exact (lin [distinct l,l.length] [] 1 (.nle (.v 0) (.a (.v 1) (.c 1))) [(1,.nle (.v 0) (.v 1))] rfl ih) | exact (lin [distinct l,l.length] [] 1 (.nle (.a (.v 0) (.c 1)) (.a (.v 1) (.c 1))) [(1,.nle (.v 0) (.v 1))] rfl ih))
    have h:(if l.contains x then distinct l else distinct l+1)=l.length+1:=h
    split at h
    · exact (False.elim (linF [distinct l,l.length] [] [(1,.nle (.v 0) (.v 1)),(-1,.neq (.v 0) (.a (.v 1) (.c 1)))] rfl hle h))
    · rename_i q
      exact List.nodup_cons.mpr ⟨fun m=>q (List.contains_iff_mem.mpr m),ih (by exact (Nat.le_antisymm hle (lin [l.length,distinct l] [] 1 (.nle (.v 0) (.v 1)) [(-1,.neq (.a (.v 1) (.c 1)) (.a (.v 0) (.c 1)))] rfl h)))⟩
end Lq
end
section
namespace Lq
open PySem Mv
end Lq
end
section
namespace Lq
open PySem Mv
theorem rep_len {α:Type} (n:Int) (xs:List α) :(rep n xs).length=xs.length*n.toNat:=by
  unfold rep; rw [List.length_flatten]; simp [Nat.mul_comm]
theorem next_eq (n:Nat) (p:Int) :∃q:Int,cF P (n+1) false 16 [.fz (.int p)]=some (.ok (.fz (.int q)),[]):=by
  have h:=fm (p*48271+11) 2147483647 (by decide)
  have m1:=mulI_r (a:=p) (b:=48271) (by decide)
  have m2:=mulI_l (a:=(p*48271+11).fmod 2147483647) (b:=(p*48271+11).fmod 2147483647) (by exact (lin [((p*(48271:Int)+(11:Int)).fmod (2147483647:Int)).natAbs] [(p*(48271:Int)+(11:Int)).fmod (2147483647:Int)] 1 (.nle (.a (.v 0) (.c 1)) (.c 18446744073709551616)) [(1,.le (.a (.v 0) (.c 1)) (.c 2147483647)),(1,.eq (.n (.v 0)) (.v 0))] rfl (h).2 (Int.natAbs_of_nonneg (a:=(p*(48271:Int)+(11:Int)).fmod (2147483647:Int)) ((h).1))))
  exact ⟨((p*(48271:Int)+(11:Int)).fmod (2147483647:Int)*(p*(48271:Int)+(11:Int)).fmod (2147483647:Int)).fmod (2147483629:Int),wkF [.v 0 (m1),.v 2 (m2)] rfl (by kernel_rfl)⟩
end Lq
end
section
namespace Lq
open PySem Mv
noncomputable abbrev k_zz9:Str:=⟨[122,122].toArray⟩
noncomputable abbrev addz (x:Str) :Str:=⟨x.cps ++ #[122]⟩
structure NamesOk (l:List Str) :Prop where
  len:l.length=12
  nd:l.Nodup
  nm:∀x∈l,isName x=true
  zz:k_zz9∉l
  az:∀x∈l,addz x∉l
noncomputable def namesB (l:List Str) :Bool:=decide (l.length=12)&&(decide (distinct l.reverse=l.length)&&(l.all isName&&(!memS k_zz9 l&&l.all fun x=>!memS (addz x) l)))
theorem namesB_ok {l:List Str} (h:namesB l=true) :NamesOk l:=by
  unfold namesB at h
  simp only [Bool.and_eq_true,decide_eq_true_eq,List.all_eq_true,Bool.not_eq_true'] at h
  obtain ⟨h1,h2,h3,h4,h5⟩:=h
  exact ⟨h1,dist_nodup h2,h3,fun m=>(by rw [memS_iff.mpr m] at h4; cases h4),fun x hx m=>(by have:=h5 x hx; rw [memS_iff.mpr m] at this; cases this)⟩
noncomputable abbrev spec:List Str:=[⟨[105,102,115].toArray⟩,⟨[108,105,115,116,120].toArray⟩,⟨[112,108,117,115,50].toArray⟩,⟨[114,101,102,117,115,101,115].toArray⟩,⟨[114,101,115,116,101,100].toArray⟩,⟨[100,111,119,110,115].toArray⟩,⟨[115,97,109,101,49].toArray⟩,⟨[106,111,105,110,115].toArray⟩,⟨[111,118,101,114,115].toArray⟩,⟨[102,105,114,115,116,115].toArray⟩,⟨[101,109,112,116,121,120].toArray⟩,⟨[97,57].toArray⟩]
noncomputable def rot (r:Nat) :List Str:=(List.range 12).map fun k=>spec.getD ((r+k) % 12) ⟨#[]⟩
theorem rots:((List.range 12).all fun r=>namesB (rot r))=true:=by kernel_rfl
theorem rot_ok (r:Nat) (h:r<12) :NamesOk (rot r):=namesB_ok (List.all_eq_true.mp rots r (List.mem_range.mpr h))
theorem fmod_nat (a:Int) (k N:Nat) (h:0<N) :(a+(0+(k:Int))).fmod N=((((a.fmod N).toNat+k) % N:Nat) :Int):=by
  rw [Int.fmod_eq_emod_of_nonneg _ (Int.natCast_nonneg N),Int.fmod_eq_emod_of_nonneg _ (Int.natCast_nonneg N),Int.zero_add,Int.natCast_emod,Int.natCast_add,Int.toNat_of_nonneg (Int.emod_nonneg _ (Int.natCast_ne_zero.mpr (Nat.pos_iff_ne_zero.mp h))),Int.emod_add_emod]
theorem rot_loop (n:Nat) (c:Int) (a1 a2 a3 a4 a5 a6:Slot) (hs:a1 = .own (.list (spec.map .str))∨a1 = .fz (.list (spec.map .str))) :∀(ks:List Nat) (s7:Slot), ∃fr,compB ⟨P.glob,cF P n,[],false⟩ [.fz (.int c),a1,a2,a3,a4,a5,a6,s7] (.idx (.var 1) (.op2 .mod (.op2 .add (.op2 .fdiv (.var 0) (.lit (.int 9))) (.var 7)) (.lit (.int 12)))) (.one 7) [] (ks.map fun (k:Nat)=>.int (0+k))=some (.ok ((ks.map fun k=>spec.getD ((((c.fdiv 9).fmod 12).toNat+k) % 12) ⟨#[]⟩).map .str),fr)
  | []=>@fun s7=>⟨_,by rw [List.map_nil,compB_nil]; rfl⟩
  | k::ks=>@fun s7=>by
    obtain ⟨fr,ih⟩:=rot_loop n c (.fz (.list (spec.map .str))) a2 a3 a4 a5 a6 (.inr rfl) ks (.fz (.int (0+k)))
    have hm:=fm (c.fdiv 9) 12 (by decide)
    have hx:idxOf (spec.map PyData.str) ((c.fdiv 9+(0+(k:Int))).fmod 12)=some (.str (spec.getD ((((c.fdiv 9).fmod 12).toNat+k) % 12) ⟨#[]⟩)):=by
      have e:(c.fdiv 9+(0+(k:Int))).fmod 12=(((((c.fdiv 9).fmod 12).toNat+k) % 12:Nat) :Int):=fmod_nat (c.fdiv 9) k 12 (by decide)
      have hlt:(((c.fdiv 9).fmod 12).toNat+k) % 12<12:=Nat.mod_lt _ (by decide)
      rw [e]
      unfold idxOf
      rw [if_pos (Int.natCast_nonneg _),Int.toNat_natCast,List.getElem?_map,List.getD_eq_getElem?_getD,List.getElem?_eq_getElem (by exact hlt)]
      rfl
    refine ⟨fr,?_⟩
    rw [List.map_cons,List.map_cons,List.map_cons]
    rcases hs with rfl | rfl <;> exact wkC [.d 3 (hx),.cp 0 (ih)] rfl (by kernel_rfl)
end Lq
end
section
namespace Lq
open PySem Mv
noncomputable abbrev sgn:List Nat:=[97,98,99,100,101,102,103,104,105,106,107,108,109,110,111,112,113,114,115,116,117,118,119,120,121,122,48,49,50,51,52,53,54,55,56,57]
noncomputable def sg (p r:Int) (d:Nat) :Str:=⟨(rep p [109]).toArray ++ #[d]++(rep r [109]).toArray⟩
noncomputable def big (p r N:Nat) :List Str:=(sgn.take N).map (sg p r)
theorem dec_str (a b:Str) :decide (a=b)=(a.cps.toList==b.cps.toList):=Option.some.inj ((e_strD a b).symm.trans rfl)
noncomputable def hdF (L:List Nat) :Bool:=match L with
  | c::_=>lettersN.contains c
  | []=>false
noncomputable def nameF (L:List Nat) :Bool:=decide (1≤L.length)&&(decide (L.length≤8)&&(hdF L&&(!((pairsS.any fun y=>y.cps.toList==L)||((singS.any fun y=>y.cps.toList==L)||(L==k_list.cps.toList)))&&(!(L==k_if.cps.toList)&&(!(L==k_refuse.cps.toList)&&L.all signB)))))
theorem isName_F (x:Str) :isName x=nameF x.cps.toList:=by
  unfold isName isOp memS nameF
  rw [show headL x=hdF x.cps.toList from rfl]
  simp only [dec_str,Array.length_toList]
noncomputable def sl (p r d:Nat) :List Nat:=List.replicate p 109++d::List.replicate r 109
theorem sg_list (p r d:Nat) :(sg p r d).cps.toList=sl p r d:=by
  have e:∀n:Nat,rep (n:Int) [109]=List.replicate n 109:=fun n=>by unfold rep; rw [Int.toNat_natCast]; exact List.flatten_replicate_singleton
  unfold sg sl
  rw [e,e]
  simp
theorem sg_inj {p r d e:Nat} (h:sg p r d=sg p r e) :d=e:=by
  have h:=congrArg (fun x:Str=>x.cps.toList) h
  simp only [sg_list] at h
  exact (List.cons.inj (List.append_cancel_left h)).1
noncomputable def bigB (p r N:Nat) :Bool:=(sgn.take N).all fun d=>nameF (sl p r d) && !(sl p r d==[122,122])
theorem bigs:((List.range 8).all fun s=>(List.range (s+1)).all fun p=>bigB p (s-p) (if p=0 then 26 else 36))=true:=by kernel_rfl
theorem sgn_nd:sgn.Nodup:=by decide +kernel
theorem big_len {p r N:Nat} (h:N≤36) :(big p r N).length=N:=by
  unfold big; rw [List.length_map,List.length_take]; exact Nat.min_eq_left h
theorem sub_ok {p r N t:Nat} (hN:N=26∨N=36) (h:bigB p r N=true) :NamesOk ((List.range 12).map fun k=>sg p r (sgn.getD ((t+k) % N) 0)):=by
  unfold bigB at h
  simp only [Bool.and_eq_true,List.all_eq_true,Bool.not_eq_true'] at h
  have h2:∀x∈big p r N,isName x=true:=fun x hx=>by
    obtain ⟨d,hd,rfl⟩:=List.mem_map.mp hx
    rw [isName_F,sg_list]; exact (h d hd).1
  have h3:memS k_zz9 (big p r N)=false:=by
    rw [Bool.eq_false_iff]; intro m
    obtain ⟨d,hd,e⟩:=List.mem_map.mp (memS_iff.mp m)
    have e:=congrArg (fun x:Str=>x.cps.toList) e
    simp only [sg_list] at e
    have:=(h d hd).2
    rw [e] at this; exact absurd this (by decide)
  have h4:∀x∈big p r N,x.cps.size=p+r+1:=fun x hx=>by
    obtain ⟨d,hd,rfl⟩:=List.mem_map.mp hx
    rw [← Array.length_toList,sg_list]; unfold sl; simp; exact (Nat.le_antisymm (lin [p,r] [] 1 (.nle (.a (.v 0) (.a (.v 1) (.c 1))) (.a (.a (.v 0) (.v 1)) (.c 1))) [] rfl) (lin [p,r] [] 1 (.nle (.a (.a (.v 0) (.v 1)) (.c 1)) (.a (.v 0) (.a (.v 1) (.c 1)))) [] rfl))
  have nd:(big p r N).Nodup:=List.pairwise_map.mpr (((List.take_sublist N sgn).nodup sgn_nd).imp fun hne e=>hne (sg_inj e))
  have hl:(big p r N).length=N:=big_len (by exact (Or.elim hN (fun mvs11=>(lin [N] [] 1 (.nle (.v 0) (.c 36)) [(1,.neq (.v 0) (.c 26))] rfl mvs11)) (fun mvs11=>(lin [N] [] 1 (.nle (.v 0) (.c 36)) [(1,.neq (.v 0) (.c 36))] rfl mvs11))))
  have hg:∀i,i<N→(big p r N)[i]? = some (sg p r (sgn.getD i 0)):=fun i hi=>by
    have hi36:i<sgn.length:=Nat.lt_of_lt_of_le hi (by rcases hN with rfl | rfl <;> decide)
    unfold big
    rw [List.getElem?_map,List.getElem?_take_of_lt hi,List.getD_eq_getElem?_getD,List.getElem?_eq_getElem hi36]
    rfl
  have hm:∀x,x∈((List.range 12).map fun k=>sg p r (sgn.getD ((t+k) % N) 0))→x∈big p r N:=fun x hx=>by
    obtain ⟨k,_,rfl⟩:=List.mem_map.mp hx
    exact List.mem_of_getElem? (hg _ (Nat.mod_lt _ (by exact (Or.elim hN (fun mvs16=>(lin [N] [] 1 (.nle (.a (.c 0) (.c 1)) (.v 0)) [(-1,.neq (.v 0) (.c 26))] rfl mvs16)) (fun mvs16=>(lin [N] [] 1 (.nle (.a (.c 0) (.c 1)) (.v 0)) [(-1,.neq (.v 0) (.c 36))] rfl mvs16))))))
  refine ⟨by simp,?_,fun x hx=>h2 x (hm x hx),fun hx=>(by rw [memS_iff.mpr (hm _ hx)] at h3; cases h3),fun x hx hy=>?_⟩
  · refine List.pairwise_map.mpr (List.Pairwise.imp_of_mem ?_ List.pairwise_lt_range)
    intro a b ha hb hab e
    have ha:=List.mem_range.mp ha
    have hb:=List.mem_range.mp hb
    have i1:(t+a) % N<N:=Nat.mod_lt _ (by exact (Or.elim hN (fun mvs22=>(lin [N] [] 1 (.nle (.a (.c 0) (.c 1)) (.v 0)) [(-1,.neq (.v 0) (.c 26))] rfl mvs22)) (fun mvs22=>(lin [N] [] 1 (.nle (.a (.c 0) (.c 1)) (.v 0)) [(-1,.neq (.v 0) (.c 36))] rfl mvs22))))
    have i2:(t+b) % N<N:=Nat.mod_lt _ (by exact (lin [N,(t+a) % N] [] 1 (.nle (.a (.c 0) (.c 1)) (.v 0)) [(1,.nle (.a (.v 1) (.c 1)) (.v 0))] rfl i1))
    have hne:(t+a) % N≠(t+b) % N:=by rcases hN with rfl | rfl <;> omega
    have g1:=hg _ i1
    have g2:=hg _ i2
    rw [← hl] at i1 i2
    rw [hl] at i1 i2
    have q:=List.pairwise_iff_getElem.mp nd
    have e1:(big p r N)[(t+a) % N]'(by exact (lin [(t+a) % N,(big p r N).length,N] [] 1 (.nle (.a (.v 0) (.c 1)) (.v 1)) [(-1,.neq (.v 1) (.v 2)),(1,.nle (.a (.v 0) (.c 1)) (.v 2))] rfl hl i1))=sg p r (sgn.getD ((t+a) % N) 0):=by
      have:=List.getElem?_eq_getElem (l:=big p r N) (i:=(t+a) % N) (by exact (lin [(t+a) % N,(big p r N).length,N] [] 1 (.nle (.a (.v 0) (.c 1)) (.v 1)) [(-1,.neq (.v 1) (.v 2)),(1,.nle (.a (.v 0) (.c 1)) (.v 2))] rfl hl i1))
      rw [this] at g1; exact Option.some.inj g1
    have e2:(big p r N)[(t+b) % N]'(by exact (lin [(t+b) % N,(big p r N).length,N] [] 1 (.nle (.a (.v 0) (.c 1)) (.v 1)) [(-1,.neq (.v 1) (.v 2)),(1,.nle (.a (.v 0) (.c 1)) (.v 2))] rfl hl i2))=sg p r (sgn.getD ((t+b) % N) 0):=by
      have:=List.getElem?_eq_getElem (l:=big p r N) (i:=(t+b) % N) (by exact (lin [(t+b) % N,(big p r N).length,N] [] 1 (.nle (.a (.v 0) (.c 1)) (.v 1)) [(-1,.neq (.v 1) (.v 2)),(1,.nle (.a (.v 0) (.c 1)) (.v 2))] rfl hl i2))
      rw [this] at g2; exact Option.some.inj g2
    rcases Nat.lt_or_gt_of_ne hne with hlt | hlt
    · exact q _ _ (by exact (lin [(t+a) % N,(big p r N).length,N] [] 1 (.nle (.a (.v 0) (.c 1)) (.v 1)) [(-1,.neq (.v 1) (.v 2)),(1,.nle (.a (.v 0) (.c 1)) (.v 2))] rfl hl i1)) (by exact (lin [(t+b) % N,(big p r N).length,N] [] 1 (.nle (.a (.v 0) (.c 1)) (.v 1)) [(-1,.neq (.v 1) (.v 2)),(1,.nle (.a (.v 0) (.c 1)) (.v 2))] rfl hl i2)) hlt (by rw [e1,e2]; exact e)
    · exact q _ _ (by exact (lin [(t+b) % N,(big p r N).length,N] [] 1 (.nle (.a (.v 0) (.c 1)) (.v 1)) [(-1,.neq (.v 1) (.v 2)),(1,.nle (.a (.v 0) (.c 1)) (.v 2))] rfl hl i2)) (by exact (lin [(t+a) % N,(big p r N).length,N] [] 1 (.nle (.a (.v 0) (.c 1)) (.v 1)) [(-1,.neq (.v 1) (.v 2)),(1,.nle (.a (.v 0) (.c 1)) (.v 2))] rfl hl i1)) hlt (by rw [e1,e2]; exact e.symm)
  · have s1:=h4 _ (hm _ hx)
    have s2:=h4 _ (hm _ hy)
    have:(addz x).cps.size=x.cps.size+1:=by unfold addz; rw [Array.size_append]; rfl
    exact (linF [x.cps.size,p,r,(addz x).cps.size] [] [(-1,.neq (.v 0) (.a (.a (.v 1) (.v 2)) (.c 1))),(1,.neq (.v 3) (.a (.a (.v 1) (.v 2)) (.c 1))),(-1,.neq (.v 3) (.a (.v 0) (.c 1)))] rfl s1 s2 this)
end Lq
end
section
namespace Lq
open PySem Mv
noncomputable abbrev sgB:List St:=[.asg (.one 6) (.idx (.var 1) (.op2 .mod (.op2 .add (.op2 .fdiv (.var 0) (.lit (.int 64))) (.var 5)) (.idx (.list [(.lit (.int 26)),(.lit (.int 36))]) (.bi .int [(.cmp .gt (.var 3) (.lit (.int 0)))])))),
      .app (.var 4) (.op2 .add (.op2 .add (.op2 .mul (.lit (S [109])) (.var 3)) (.var 6)) (.op2 .mul (.lit (S [109])) (.op2 .sub (.op2 .sub (.var 2) (.lit (.int 1))) (.var 3))))]
theorem sg_loop (n:Nat) (c:Int) (z p N:Nat) (hz:1≤z∧z≤8) (hp:p<z) (hN:N=if p=0 then 26 else 36) (a7:Slot) :∀(ks:List Nat) (acc:List Str) (s5 s6:Slot),acc.length+ks.length≤100→forB ⟨P.glob,cF P n,[],false⟩ [.fz (.int c),.fz (.str ⟨sgn.toArray⟩),.fz (.int z),.fz (.int p),.own (.list (acc.map .str)),s5,s6,a7] (.one 5) sgB [5,6] (ks.map fun (k:Nat)=>.int (0+k))=some (.ok .next,[.fz (.int c),.fz (.str ⟨sgn.toArray⟩),.fz (.int z),.fz (.int p),.own (.list ((acc++ks.map fun k=>sg p ((z - 1 - p:Nat) :Int) (sgn.getD ((((c.fdiv 64).fmod N).toNat+k) % N) 0)).map .str)),.no,.no,a7])
  | []=>@fun acc s5 s6 J=>by rw [List.map_nil,forB_nil,List.map_nil,List.append_nil]; rfl
  | k::ks=>@fun acc s5 s6 hl=>by
    have ih:=sg_loop n c z p N hz hp hN a7 ks (acc++[sg p ((z - 1 - p:Nat) :Int) (sgn.getD ((((c.fdiv 64).fmod N).toNat+k) % N) 0)])
    have hN':N=26∨N=36:=by rw [hN]; by_cases q:p=0 <;> simp [q]
    have hx:idxOf sgn ((c.fdiv 64+(0+(k:Int))).fmod N)=some (sgn.getD ((((c.fdiv 64).fmod N).toNat+k) % N) 0):=by
      have e:(c.fdiv 64+(0+(k:Int))).fmod N=(((((c.fdiv 64).fmod N).toNat+k) % N:Nat) :Int):=fmod_nat (c.fdiv 64) k N (by rcases hN' with rfl | rfl <;> decide)
      have hlt:(((c.fdiv 64).fmod N).toNat+k) % N<sgn.length:=Nat.lt_of_lt_of_le (Nat.mod_lt _ (by rcases hN' with rfl | rfl <;> decide)) (by rcases hN' with rfl | rfl <;> decide)
      rw [e]
      unfold idxOf
      rw [if_pos (Int.natCast_nonneg _),Int.toNat_natCast,List.getD_eq_getElem?_getD,List.getElem?_eq_getElem hlt]
      rfl
    have hi:idxOf [PyData.int 26,.int 36] (if decide (0<(p:Int))=true then 1 else 0)=some (.int N):=by
      rw [hN]
      by_cases q:p=0
      · subst q; rfl
      · rw [if_neg q,if_pos (decide_eq_true (by exact (Or.elim (Nat.lt_or_gt_of_ne q) (fun mvs20=>(lin [p] [] 0 (.le (.a (.c 0) (.c 1)) (.n (.v 0))) [(1,.nle (.a (.v 0) (.c 1)) (.c 0))] rfl mvs20)) (fun mvs20=>(lin [p] [] 1 (.le (.a (.c 0) (.c 1)) (.n (.v 0))) [(1,.nle (.a (.c 0) (.c 1)) (.v 0))] rfl mvs20))) :0<(p:Int)))]; rfl
    have n0:¬((N:Int)=0):=by rcases hN' with rfl | rfl <;> decide
    have hx':idxD (.str ⟨sgn.toArray⟩) (.int ((c.fdiv 64+(0+(k:Int))).fmod N))=some (.str ⟨#[sgn.getD ((((c.fdiv 64).fmod N).toNat+k) % N) 0]⟩):=by
      show (idxOf sgn _).map _=_
      rw [hx]; rfl
    have e1:∀k:Int,0≤k→k≤10→op2 .mul (.str ⟨#[109]⟩) (.int k)=some (.fz (.str ⟨(rep k [109]).toArray⟩)):=fun k h0 h1=>(o_mulS _ _).trans (if_pos ⟨by exact (lin [] [k] 1 (.le (.g (.c 1000000000)) (.v 0)) [(1,.le (.c 0) (.v 0))] rfl h0),by exact (lin [] [k] 1 (.le (.v 0) (.c 1000000000)) [(1,.le (.v 0) (.c 10))] rfl h1),by show 1*k.toNat≤16777216; exact (lin [k.toNat] [k] 1 (.nle (.m 1 (.v 0)) (.c 16777216)) [(1,.le (.v 0) (.c 10)),(1,.eq (.n (.v 0)) (.v 0))] rfl h1 (Int.toNat_of_nonneg (a:=k) h0))⟩)
    have l1:∀k:Int,k≤10→(rep k [109]).length≤10:=fun k h=>by rw [rep_len]; show 1*k.toNat≤10; omega
    have z1:=l1 (p:Int) (by exact (lin [p,z] [] 1 (.le (.n (.v 0)) (.c 10)) [(1,.nle (.v 1) (.c 8)),(1,.nle (.a (.v 0) (.c 1)) (.v 1))] rfl (hz).2 hp))
    have z2:=l1 ((z - 1 - p:Nat) :Int) (by exact (lin [z - (1:Nat) - p,z,p,z - (1:Nat)] [] 1 (.le (.n (.v 0)) (.c 10)) [(1,.nle (.v 1) (.c 8)),(1,.neq (.a (.v 0) (.v 2)) (.v 3)),(1,.neq (.a (.v 3) (.c 1)) (.v 1))] rfl (hz).2 (Nat.sub_add_cancel (n:=z - (1:Nat)) (m:=p) (lin [p,z - (1:Nat),z] [] 1 (.nle (.v 0) (.v 1)) [(1,.nle (.a (.v 0) (.c 1)) (.v 2)),(-1,.neq (.a (.v 1) (.c 1)) (.v 2))] rfl hp (Nat.sub_add_cancel (n:=z) (m:=(1:Nat)) ((hz).1)))) (Nat.sub_add_cancel (n:=z) (m:=(1:Nat)) ((hz).1))))
    have a1:=e1 (p:Int) (by exact (lin [p] [] 1 (.le (.c 0) (.n (.v 0))) [] rfl)) (by exact (lin [p,z] [] 1 (.le (.n (.v 0)) (.c 10)) [(1,.nle (.v 1) (.c 8)),(1,.nle (.a (.v 0) (.c 1)) (.v 1))] rfl (hz).2 hp))
    have a2:=e1 ((z:Int) - 1 - p) (by exact (lin [z,p] [] 1 (.le (.c 0) (.s (.s (.n (.v 0)) (.c 1)) (.n (.v 1)))) [(1,.nle (.a (.v 1) (.c 1)) (.v 0))] rfl hp)) (by exact (lin [z,p] [] 1 (.le (.s (.s (.n (.v 0)) (.c 1)) (.n (.v 1))) (.c 10)) [(1,.nle (.v 0) (.c 8))] rfl (hz).2))
    have ez:((z:Int) - 1 - p)=((z - 1 - p:Nat) :Int):=by exact (Int.le_antisymm (lin [z,p,z - (1:Nat) - p,z - (1:Nat)] [] 1 (.le (.s (.s (.n (.v 0)) (.c 1)) (.n (.v 1))) (.n (.v 2))) [(-1,.neq (.a (.v 2) (.v 1)) (.v 3)),(-1,.neq (.a (.v 3) (.c 1)) (.v 0))] rfl (Nat.sub_add_cancel (n:=z - (1:Nat)) (m:=p) (lin [p,z - (1:Nat),z] [] 1 (.nle (.v 0) (.v 1)) [(1,.nle (.a (.v 0) (.c 1)) (.v 2)),(-1,.neq (.a (.v 1) (.c 1)) (.v 2))] rfl hp (Nat.sub_add_cancel (n:=z) (m:=(1:Nat)) ((hz).1)))) (Nat.sub_add_cancel (n:=z) (m:=(1:Nat)) ((hz).1))) (lin [z - (1:Nat) - p,z,p,z - (1:Nat)] [] 1 (.le (.n (.v 0)) (.s (.s (.n (.v 1)) (.c 1)) (.n (.v 2)))) [(1,.neq (.a (.v 0) (.v 2)) (.v 3)),(1,.neq (.a (.v 3) (.c 1)) (.v 1))] rfl (Nat.sub_add_cancel (n:=z - (1:Nat)) (m:=p) (lin [p,z - (1:Nat),z] [] 1 (.nle (.v 0) (.v 1)) [(1,.nle (.a (.v 0) (.c 1)) (.v 2)),(-1,.neq (.a (.v 1) (.c 1)) (.v 2))] rfl hp (Nat.sub_add_cancel (n:=z) (m:=(1:Nat)) ((hz).1)))) (Nat.sub_add_cancel (n:=z) (m:=(1:Nat)) ((hz).1))))
    rw [show rep ((z:Int) - 1 - p) [109]=rep ((z - 1 - p:Nat) :Int) [109] by rw [ez]] at a2
    simp only [List.map_cons]
    generalize sgn.getD ((((c.fdiv 64).fmod N).toNat+k) % N) 0=d at hx' ih ⊢
    have a3:op2 .add (.str ⟨(rep (p:Int) [109]).toArray⟩) (.str ⟨#[d]⟩)=some (.fz (.str ⟨(rep (p:Int) [109]).toArray ++ #[d]⟩)):=(o_addS _ _).trans (if_pos (by rw [List.size_toArray]; show _+1≤16777216; exact (lin [(rep (↑p:Int) [(109:Nat)]).length] [] 1 (.nle (.a (.v 0) (.c 1)) (.c 16777216)) [(1,.nle (.v 0) (.c 10))] rfl z1)))
    have a4:op2 .add (.str ⟨(rep (p:Int) [109]).toArray ++ #[d]⟩) (.str ⟨(rep ((z - 1 - p:Nat) :Int) [109]).toArray⟩)=some (.fz (.str (sg p ((z - 1 - p:Nat) :Int) d))):=(o_addS _ _).trans (if_pos (by show ((rep (p:Int) [109]).toArray ++ #[d]).size+((rep ((z - 1 - p:Nat) :Int) [109]).toArray).size≤16777216; rw [Array.size_append,List.size_toArray,List.size_toArray,List.size_toArray]; show _+1+_≤16777216; exact (lin [(rep (↑p:Int) [(109:Nat)]).length,(rep (↑(z - (1:Nat) - p) :Int) [(109:Nat)]).length] [] 1 (.nle (.a (.a (.v 0) (.c 1)) (.v 1)) (.c 16777216)) [(1,.nle (.v 0) (.c 10)),(1,.nle (.v 1) (.c 10))] rfl z1 z2)))
    have hl':decide ((acc.map PyData.str).length<Sz)=true:=decide_eq_true (by rw [List.length_map]; simp only [List.length_cons,Sz] at *; exact (lin [acc.length,ks.length] [] 1 (.nle (.a (.v 0) (.c 1)) (.c 16777216)) [(1,.nle (.a (.v 0) (.a (.v 1) (.c 1))) (.c 100))] rfl hl))
    have ih:=ih (.fz (.int (0+k))) (.fz (.str ⟨#[d]⟩)) (by simp only [List.length_append,List.length_cons,List.length_nil] at *; exact (lin [acc.length,ks.length] [] 1 (.nle (.a (.a (.v 0) (.a (.c 0) (.c 1))) (.v 1)) (.c 100)) [(1,.nle (.a (.v 0) (.a (.v 1) (.c 1))) (.c 100))] rfl hl))
    rw [List.append_assoc,List.map_append (l₂:=[_])] at ih
    exact wkL [.b 2 (show cmpD Cm.gt (PyData.int (↑p:Int)) (PyData.int (0:Int))=some (decide ((0:Int)<(↑p:Int))) by simp only [c_gt]),.d 1 (hi),.v 0 (show op2 Op2.mod (PyData.int (c.fdiv (64:Int)+((0:Int)+(↑k:Int)))) (PyData.int (↑N:Int))=some (Rv.fz (PyData.int ((c.fdiv (64:Int)+((0:Int)+(↑k:Int))).fmod (↑N:Int)))) by simp only [o_mod,n0,if_false]),.d 0 (hx'),.v 0 (a1),.v 0 (a3),.v 2 (a2),.v 0 (a4),.t 0 (hl'),.lp 0 (ih)] rfl (by kernel_rfl)
theorem names_eq (n:Nat) (c:Int) :Ex23 (fun l r=>cF P (n+1) false 18 [.fz (.int c)]=some (.ok r,[])) (fun l r=>NamesOk l) (fun l r=>(r = .own (.list (l.map .str))∨r = .fz (.list (l.map .str)))):=by
  have e12:iterD .range [.int 12]=some ((List.range 12).map fun (k:Nat)=>PyData.int (0+k)):=rfl
  by_cases q:c.fmod 9=8
  · have h12:=fm (c.fdiv 9) 12 (by decide)
    obtain ⟨fr,hf⟩:=rot_loop n c (.own (.list (spec.map .str))) .no .no .no .no .no (.inl rfl) (List.range 12) .no
    exact ⟨rot ((c.fdiv 9).fmod 12).toNat,.own (.list ((rot ((c.fdiv 9).fmod 12).toNat).map .str)),by exact wkF [.b 1 (show cmpD Cm.eq (PyData.int (c.fmod (9:Int))) (PyData.int (8:Int))=some true by simp only [q,c_eqI,decide_true]),.l 2 (e12),.cp 0 (hf)] rfl (by kernel_rfl),rot_ok _ (by exact (lin [((c.fdiv (9:Int)).fmod (12:Int)).toNat] [(c.fdiv (9:Int)).fmod (12:Int)] 1 (.nle (.a (.v 0) (.c 1)) (.c 12)) [(1,.le (.a (.v 0) (.c 1)) (.c 12)),(1,.eq (.n (.v 0)) (.v 0))] rfl (h12).2 (Int.toNat_of_nonneg (a:=(c.fdiv (9:Int)).fmod (12:Int)) ((h12).1)))),.inl rfl⟩
  · have h8:=fm c 8 (by decide)
    have hp:=fm (c.fdiv 8) (1+c.fmod 8) (by exact (lin [] [c.fmod (8:Int)] 1 (.le (.a (.c 0) (.c 1)) (.a (.c 1) (.v 0))) [(1,.le (.c 0) (.v 0))] rfl (h8).1))
    have hz1:1+c.fmod 8=(((1+c.fmod 8).toNat:Nat) :Int):=by exact (Int.le_antisymm (lin [((1:Int)+c.fmod (8:Int)).toNat] [c.fmod (8:Int)] 1 (.le (.a (.c 1) (.v 0)) (.n (.v 0))) [(-1,.eq (.n (.v 0)) (.a (.c 1) (.v 0)))] rfl (Int.toNat_of_nonneg (a:=(1:Int)+c.fmod (8:Int)) (lin [] [c.fmod (8:Int)] 1 (.le (.c 0) (.a (.c 1) (.v 0))) [(1,.le (.c 0) (.v 0))] rfl (h8).1))) (lin [((1:Int)+c.fmod (8:Int)).toNat] [c.fmod (8:Int)] 1 (.le (.n (.v 0)) (.a (.c 1) (.v 0))) [(1,.eq (.n (.v 0)) (.a (.c 1) (.v 0)))] rfl (Int.toNat_of_nonneg (a:=(1:Int)+c.fmod (8:Int)) (lin [] [c.fmod (8:Int)] 1 (.le (.c 0) (.a (.c 1) (.v 0))) [(1,.le (.c 0) (.v 0))] rfl (h8).1))))
    have v1:op2 .add (.int 1) (.int (c.fmod 8))=some (.fz (.int (((1+c.fmod 8).toNat:Nat) :Int))):=by rw [← hz1]; rfl
    generalize (1+c.fmod 8).toNat=z at hz1 v1
    rw [hz1] at hp
    have hz2:(c.fdiv 8).fmod z=((((c.fdiv 8).fmod z).toNat:Nat) :Int):=by exact (Int.le_antisymm (lin [((c.fdiv (8:Int)).fmod (↑z:Int)).toNat] [(c.fdiv (8:Int)).fmod (↑z:Int)] 1 (.le (.v 0) (.n (.v 0))) [(-1,.eq (.n (.v 0)) (.v 0))] rfl (Int.toNat_of_nonneg (a:=(c.fdiv (8:Int)).fmod (↑z:Int)) ((hp).1))) (lin [((c.fdiv (8:Int)).fmod (↑z:Int)).toNat] [(c.fdiv (8:Int)).fmod (↑z:Int)] 1 (.le (.n (.v 0)) (.v 0)) [(1,.eq (.n (.v 0)) (.v 0))] rfl (Int.toNat_of_nonneg (a:=(c.fdiv (8:Int)).fmod (↑z:Int)) ((hp).1))))
    have v2:op2 .mod (.int (c.fdiv 8)) (.int z)=some (.fz (.int ((((c.fdiv 8).fmod z).toNat:Nat) :Int))):=by rw [← hz2,o_mod,if_neg (by exact (fun mvo11=>(linF [z] [c.fmod (8:Int)] [(1,.le (.c 0) (.v 0)),(1,.eq (.a (.c 1) (.v 0)) (.n (.v 0))),(1,.eq (.n (.v 0)) (.c 0))] rfl (h8).1 hz1 mvo11)))]
    generalize ((c.fdiv 8).fmod z).toNat=p at hz2 v2
    rw [hz2] at hp
    have lp:=sg_loop n c z p (if p=0 then 26 else 36) (by exact ⟨(lin [z,p] [] 1 (.nle (.c 1) (.v 0)) [(1,.le (.c 0) (.n (.v 1))),(1,.le (.a (.n (.v 1)) (.c 1)) (.n (.v 0)))] rfl (hp).1 (hp).2),(lin [z] [c.fmod (8:Int)] 1 (.nle (.v 0) (.c 8)) [(1,.le (.a (.v 0) (.c 1)) (.c 8)),(-1,.eq (.a (.c 1) (.v 0)) (.n (.v 0)))] rfl (h8).2 hz1)⟩) (by exact (lin [p,z] [] 1 (.nle (.a (.v 0) (.c 1)) (.v 1)) [(1,.le (.a (.n (.v 0)) (.c 1)) (.n (.v 1)))] rfl (hp).2)) rfl .no (List.range 12) [] .no .no (by decide)
    rw [List.map_nil,List.nil_append] at lp
    refine ⟨(List.range 12).map fun k=>sg p ((z - 1 - p:Nat) :Int) (sgn.getD ((((c.fdiv 64).fmod (if p=0 then 26 else 36:Nat)).toNat+k) % (if p=0 then 26 else 36)) 0),.fz (.list (((List.range 12).map fun k=>sg p ((z - 1 - p:Nat) :Int) (sgn.getD ((((c.fdiv 64).fmod (if p=0 then 26 else 36:Nat)).toNat+k) % (if p=0 then 26 else 36)) 0)).map .str)),?_,sub_ok (p:=p) (r:=z - 1 - p) (N:=if p=0 then 26 else 36) (t:=((c.fdiv 64).fmod (if p=0 then 26 else 36:Nat)).toNat) ?_ ?_,.inr rfl⟩
    · exact wkF [.b 1 (show cmpD Cm.eq (PyData.int (c.fmod (9:Int))) (PyData.int (8:Int))=some false by simp only [c_eqI,q,decide_false]),.v 2 (v1),.v 1 (v2),.l 0 (e12),.lp 0 (lp)] rfl (by kernel_rfl)
    · by_cases q:p=0 <;> simp [q]
    · exact List.all_eq_true.mp (List.all_eq_true.mp bigs (z - 1) (List.mem_range.mpr (by exact (lin [z - (1:Nat),z] [c.fmod (8:Int)] 1 (.nle (.a (.v 0) (.c 1)) (.c 8)) [(1,.le (.a (.v 0) (.c 1)) (.c 8)),(-1,.eq (.a (.c 1) (.v 0)) (.n (.v 1))),(1,.neq (.a (.v 0) (.c 1)) (.v 1))] rfl (h8).2 hz1 (Nat.sub_add_cancel (n:=z) (m:=(1:Nat)) (lin [z,p] [] 1 (.nle (.c 1) (.v 0)) [(1,.le (.c 0) (.n (.v 1))),(1,.le (.a (.n (.v 1)) (.c 1)) (.n (.v 0)))] rfl (hp).1 (hp).2)))))) p (List.mem_range.mpr (by exact (lin [p,z - (1:Nat),z] [] 1 (.nle (.a (.v 0) (.c 1)) (.a (.v 1) (.c 1))) [(1,.le (.a (.n (.v 0)) (.c 1)) (.n (.v 2))),(-1,.neq (.a (.v 1) (.c 1)) (.v 2))] rfl (hp).2 (Nat.sub_add_cancel (n:=z) (m:=(1:Nat)) (lin [z,p] [] 1 (.nle (.c 1) (.v 0)) [(1,.le (.c 0) (.n (.v 1))),(1,.le (.a (.n (.v 1)) (.c 1)) (.n (.v 0)))] rfl (hp).1 (hp).2)))))
end Lq
end
section
namespace Lq
open PySem Mv
structure Fit (ns:List Str) (cs:List (Str×Nat)) (d:Nat) (t:T) :Prop where
  ok:∀r,d≤r→isb ns cs r t=true
  dp:dpT t≤5
theorem Fit.mono {ns:List Str} {cs:List (Str×Nat)} {d e:Nat} {t:T} (h:Fit ns cs d t) (hd:d≤e) :Fit ns cs e t:=⟨fun r hr=>h.ok r (by exact (lin [d,r,e] [] 1 (.nle (.v 0) (.v 1)) [(1,.nle (.v 0) (.v 2)),(1,.nle (.v 2) (.v 1))] rfl hd hr)),h.dp⟩
theorem Fit.val {ns:List Str} {cs:List (Str×Nat)} {d:D} (h:Vl d) :Fit ns cs 1 (.val d):=⟨fun r hr=>by
  obtain ⟨k,rfl⟩ :∃k,r=k+1:=⟨r - 1,by exact (Nat.le_antisymm (lin [r,r - (1:Nat)] [] 1 (.nle (.v 0) (.a (.v 1) (.c 1))) [(-1,.neq (.a (.v 1) (.c 1)) (.v 0))] rfl (Nat.sub_add_cancel (n:=r) (m:=(1:Nat)) hr)) (lin [r - (1:Nat),r] [] 1 (.nle (.a (.v 0) (.c 1)) (.v 1)) [(1,.neq (.a (.v 0) (.c 1)) (.v 1))] rfl (Nat.sub_add_cancel (n:=r) (m:=(1:Nat)) hr)))⟩
  show (good d&&decide (wt d≤50))=true
  rw [h.1,decide_eq_true h.2.2]; rfl,h.2.1⟩
theorem Fit.nam {ns:List Str} {cs:List (Str×Nat)} {x:Str} (h:x∈ns) :Fit ns cs 1 (.nam x):=⟨fun r hr=>by
  obtain ⟨k,rfl⟩ :∃k,r=k+1:=⟨r - 1,by exact (Nat.le_antisymm (lin [r,r - (1:Nat)] [] 1 (.nle (.v 0) (.a (.v 1) (.c 1))) [(-1,.neq (.a (.v 1) (.c 1)) (.v 0))] rfl (Nat.sub_add_cancel (n:=r) (m:=(1:Nat)) hr)) (lin [r - (1:Nat),r] [] 1 (.nle (.a (.v 0) (.c 1)) (.v 1)) [(1,.neq (.a (.v 0) (.c 1)) (.v 1))] rfl (Nat.sub_add_cancel (n:=r) (m:=(1:Nat)) hr)))⟩
  exact memS_iff.mpr h,by show 0≤5; decide⟩
theorem Fit.ref {ns:List Str} {cs:List (Str×Nat)} {x:Str} (h:x∈wordsS) :Fit ns cs 1 (.ref x):=⟨fun r hr=>by
  obtain ⟨k,rfl⟩ :∃k,r=k+1:=⟨r - 1,by exact (Nat.le_antisymm (lin [r,r - (1:Nat)] [] 1 (.nle (.v 0) (.a (.v 1) (.c 1))) [(-1,.neq (.a (.v 1) (.c 1)) (.v 0))] rfl (Nat.sub_add_cancel (n:=r) (m:=(1:Nat)) hr)) (lin [r - (1:Nat),r] [] 1 (.nle (.a (.v 0) (.c 1)) (.v 1)) [(1,.neq (.a (.v 0) (.c 1)) (.v 1))] rfl (Nat.sub_add_cancel (n:=r) (m:=(1:Nat)) hr)))⟩
  exact memS_iff.mpr h,by show 0≤5; decide⟩
theorem dpTs_le {m:Nat} :∀ {ts:List T},(∀t∈ts,dpT t≤m)→dpTs ts≤m
  | []=>@fun J=>Nat.zero_le _
  | t::ts=>@fun h=>by
    have h1:=h t List.mem_cons_self
    have h2:=dpTs_le fun u hu=>h u (List.mem_cons_of_mem _ hu)
    show max (dpT t) (dpTs ts)≤m
    exact (Nat.max_le.mpr ⟨h1,h2⟩)
theorem Fit.iff {ns:List Str} {cs:List (Str×Nat)} {d:Nat} {ps:List T} (hl:ps.length=3) (h:∀t∈ps,Fit ns cs d t) :Fit ns cs (d+1) (.iff ps):=⟨fun r hr=>by
  obtain ⟨k,rfl⟩ :∃k,r=k+1:=⟨r - 1,by exact (Nat.le_antisymm (lin [r,r - (1:Nat)] [] 1 (.nle (.v 0) (.a (.v 1) (.c 1))) [(-1,.neq (.a (.v 1) (.c 1)) (.v 0))] rfl (Nat.sub_add_cancel (n:=r) (m:=(1:Nat)) (lin [r,d] [] 1 (.nle (.c 1) (.v 0)) [(1,.nle (.a (.v 1) (.c 1)) (.v 0))] rfl hr))) (lin [r - (1:Nat),r] [] 1 (.nle (.a (.v 0) (.c 1)) (.v 1)) [(1,.neq (.a (.v 0) (.c 1)) (.v 1))] rfl (Nat.sub_add_cancel (n:=r) (m:=(1:Nat)) (lin [r,d] [] 1 (.nle (.c 1) (.v 0)) [(1,.nle (.a (.v 1) (.c 1)) (.v 0))] rfl hr))))⟩
  show (decide (ps.length=3)&&ps.all (isb ns cs k))=true
  rw [decide_eq_true hl,Bool.true_and,List.all_eq_true]
  exact fun t ht=>(h t ht).ok k (by exact (lin [d,k] [] 1 (.nle (.v 0) (.v 1)) [(1,.nle (.a (.v 0) (.c 1)) (.a (.v 1) (.c 1)))] rfl hr)),dpTs_le fun t ht=>(h t ht).dp⟩
theorem Fit.doo {ns:List Str} {cs:List (Str×Nat)} {d:Nat} {op:Str} {ps:List T} (ho:isOp op=true) (hl:takesB op ps.length=true) (h:∀t∈ps,Fit ns cs d t) :Fit ns cs (d+1) (.doo op ps):=⟨fun r hr=>by
  obtain ⟨k,rfl⟩ :∃k,r=k+1:=⟨r - 1,by exact (Nat.le_antisymm (lin [r,r - (1:Nat)] [] 1 (.nle (.v 0) (.a (.v 1) (.c 1))) [(-1,.neq (.a (.v 1) (.c 1)) (.v 0))] rfl (Nat.sub_add_cancel (n:=r) (m:=(1:Nat)) (lin [r,d] [] 1 (.nle (.c 1) (.v 0)) [(1,.nle (.a (.v 1) (.c 1)) (.v 0))] rfl hr))) (lin [r - (1:Nat),r] [] 1 (.nle (.a (.v 0) (.c 1)) (.v 1)) [(1,.neq (.a (.v 0) (.c 1)) (.v 1))] rfl (Nat.sub_add_cancel (n:=r) (m:=(1:Nat)) (lin [r,d] [] 1 (.nle (.c 1) (.v 0)) [(1,.nle (.a (.v 1) (.c 1)) (.v 0))] rfl hr))))⟩
  show (isOp op&&(takesB op ps.length&&ps.all (isb ns cs k)))=true
  rw [ho,hl,Bool.true_and,Bool.true_and,List.all_eq_true]
  exact fun t ht=>(h t ht).ok k (by exact (lin [d,k] [] 1 (.nle (.v 0) (.v 1)) [(1,.nle (.a (.v 0) (.c 1)) (.a (.v 1) (.c 1)))] rfl hr)),dpTs_le fun t ht=>(h t ht).dp⟩
theorem Fit.call {ns:List Str} {cs:List (Str×Nat)} {d:Nat} {f:Str} {ps:List T} (hl:cnt cs f=some ps.length) (h:∀t∈ps,Fit ns cs d t) :Fit ns cs (d+1) (.call f ps):=⟨fun r hr=>by
  obtain ⟨k,rfl⟩ :∃k,r=k+1:=⟨r - 1,by exact (Nat.le_antisymm (lin [r,r - (1:Nat)] [] 1 (.nle (.v 0) (.a (.v 1) (.c 1))) [(-1,.neq (.a (.v 1) (.c 1)) (.v 0))] rfl (Nat.sub_add_cancel (n:=r) (m:=(1:Nat)) (lin [r,d] [] 1 (.nle (.c 1) (.v 0)) [(1,.nle (.a (.v 1) (.c 1)) (.v 0))] rfl hr))) (lin [r - (1:Nat),r] [] 1 (.nle (.a (.v 0) (.c 1)) (.v 1)) [(1,.neq (.a (.v 0) (.c 1)) (.v 1))] rfl (Nat.sub_add_cancel (n:=r) (m:=(1:Nat)) (lin [r,d] [] 1 (.nle (.c 1) (.v 0)) [(1,.nle (.a (.v 1) (.c 1)) (.v 0))] rfl hr))))⟩
  show (decide (cnt cs f=some ps.length)&&ps.all (isb ns cs k))=true
  rw [decide_eq_true hl,Bool.true_and,List.all_eq_true]
  exact fun t ht=>(h t ht).ok k (by exact (lin [d,k] [] 1 (.nle (.v 0) (.v 1)) [(1,.nle (.a (.v 0) (.c 1)) (.a (.v 1) (.c 1)))] rfl hr)),dpTs_le fun t ht=>(h t ht).dp⟩
noncomputable abbrev few0:List D:=[.int 0,.int 1,.int 2,.tuple [],.tuple [.int 1],.tuple [.int 2,.int 0],.tuple [.tuple [],.int 1],.int 3]
noncomputable abbrev few1:List D:=[.int 3,.int (-1),.tuple [.int 1,.int 2],.int 0]
noncomputable abbrev few2:List D:=[.tuple [.int 0,.tuple [.int 1,.tuple [.int 2]]],.int (-4),.int 2,.tuple []]
theorem few_all:few0.all vlB=true∧few1.all vlB=true∧few2.all vlB=true:=⟨by kernel_rfl,by kernel_rfl,by kernel_rfl⟩
theorem few_eq (n:Nat) (p w:Int) :Ex12 (fun d=>cF P (n+1) false 19 [.fz (.int p),.fz (.int w)]=some (.ok (.fz d),[])) (fun d=>Vl d):=by
  have h8:=fm p 8 (by decide)
  have h4:=fm p 4 (by decide)
  obtain ⟨d0,e0,m0⟩:=idx_mem (xs:=few0) h8.1 h8.2
  obtain ⟨d1,e1,m1⟩:=idx_mem (xs:=few1) h4.1 h4.2
  obtain ⟨d2,e2,m2⟩:=idx_mem (xs:=few2) h4.1 h4.2
  have v0:=vlB_ok (List.all_eq_true.mp few_all.1 d0 m0)
  have v1:=vlB_ok (List.all_eq_true.mp few_all.2.1 d1 m1)
  have v2:=vlB_ok (List.all_eq_true.mp few_all.2.2 d2 m2)
  have l8:((few0.length:Nat) :Int)=8:=rfl
  have l4:((few1.length:Nat) :Int)=4:=rfl
  have l4':((few2.length:Nat) :Int)=4:=rfl
  by_cases q1:w=1
  · subst q1
    refine ⟨d1,?_,v1⟩
    exact wkF [.d 6 (e1)] rfl (by kernel_rfl)
  · have b1:(w==1)=false:=by simpa using q1
    by_cases q2:w=2
    · subst q2
      refine ⟨d2,?_,v2⟩
      exact wkF [.d 6 (e2)] rfl (by kernel_rfl)
    · have b2:(w==2)=false:=by simpa using q2
      refine ⟨d0,?_,v0⟩
      exact wkF [.b 0 (show cmpD Cm.eq (PyData.int w) (PyData.int (1:Int))=some false by simp only [c_eq,e_int,b1]),.b 1 (show cmpD Cm.eq (PyData.int w) (PyData.int (2:Int))=some false by simp only [c_eq,e_int,b2]),.d 3 (e0)] rfl (by kernel_rfl)
theorem nds_str:∀l:List Str,noDicts (l.map .str)=true
  | []=>rfl
  | x::l=>by show (true&&noDicts (l.map .str))=true; rw [nds_str l]; rfl
theorem eq_nil (l:List Str) :eqD (.list (l.map .str)) (.list [])=some (decide (l=[])):=by
  cases l with
  | nil=>rfl
  | cons x l=>
    rw [decide_eq_false (by simp)]
    rw [e_list]
    have:eqOk (.list ((x::l).map .str)) (.list [])=true:=by
      unfold eqOk
      rw [show noDict (.list ((x::l).map .str))=true from nds_str _,show noDict (.list [])=true from rfl,decide_eq_true (by show min _ (0+1)≤64; exact (lin [min (PyData.list (List.map PyData.str (x::l))).depth ((0:Nat)+(1:Nat))] [] 1 (.nle (.v 0) (.c 64)) [(1,.nle (.v 0) (.a (.c 0) (.c 1)))] rfl (Nat.min_le_right ((PyData.list (List.map PyData.str (x::l))).depth) ((0:Nat)+(1:Nat)))))]; rfl
    rw [if_pos this]; rfl
theorem one_d {ns:List Str} {cs:List (Str×Nat)} {d:Nat} {op:Str} {t:T} (ho:isOp op=true) (hl:takesB op 1=true) (h:Fit ns cs d t) :Fit ns cs (d+1) (.doo op [t]):=.doo ho hl fun u hu=>by rw [List.mem_singleton.mp hu]; exact h
noncomputable abbrev tameW:List Str:=[⟨[100,111,119,110].toArray⟩,⟨[102,105,114,115,116].toArray⟩,⟨[114,101,115,116].toArray⟩,⟨[114,101,115,116].toArray⟩,⟨[100,111,119,110].toArray⟩]
theorem tameW_ok:tameW.all (fun w=>isOp w&&takesB w 1)=true:=by kernel_rfl
theorem tame_eq (n:Nat) (p:Int) (kn:List Str) (hs:List D) (ns:List Str) (cs:List (Str×Nat)) (hk:∀x∈kn,x∈ns) :Ex12 (fun t=>cF P (n+2) false 20 [.fz (.int p),.fz (.list (kn.map .str)),.fz (.list hs)]=some (.ok (.fz (enc t)),[])) (fun t=>Fit ns cs 3 t):=by
  obtain ⟨q,hq⟩:=next_eq n p
  have h8:=fm (p.fdiv 5) 8 (by decide)
  obtain ⟨d,hd,hv⟩:=few_eq n q ((hs.length:Int).fmod 3)
  have hn:=eq_nil kn
  by_cases q0:kn=[]∨(p.fdiv 5).fmod 8=0
  · refine ⟨.val d,?_,(Fit.val hv).mono (by decide)⟩
    rcases q0 with rfl | q0
    · exact wkF [.c 2 (hq),.c 5 (hd)] rfl (by kernel_rfl)
    · have b0:((p.fdiv 5).fmod 8==0)=true:=by simpa using q0
      by_cases qn:kn=[]
      · rw [decide_eq_true qn] at hn
        exact wkF [.c 2 (hq),.b 0 (hn),.c 4 (hd)] rfl (by kernel_rfl)
      · rw [decide_eq_false qn] at hn
        exact wkF [.c 2 (hq),.b 0 (hn),.b 1 (show cmpD Cm.eq (PyData.int ((p.fdiv (5:Int)).fmod (8:Int))) (PyData.int (0:Int))=some true by simp only [c_eq,e_int,b0]),.c 3 (hd)] rfl (by kernel_rfl)
  · have qn:¬kn=[]:=fun h=>q0 (.inl h)
    have b0:((p.fdiv 5).fmod 8==0)=false:=by (have:¬((p.fdiv 5).fmod 8=0):=fun h=>q0 (.inr h)); simpa using this
    rw [decide_eq_false qn] at hn
    have lk:(((kn.map PyData.str).length:Nat) :Int)=(kn.length:Int):=by rw [List.length_map]
    have l0:0<kn.length:=List.length_pos_iff.mpr qn
    have hm:=fm q kn.length (by exact (lin [kn.length] [] 1 (.le (.a (.c 0) (.c 1)) (.n (.v 0))) [(1,.nle (.a (.c 0) (.c 1)) (.v 0))] rfl l0))
    obtain ⟨x,hx,mx⟩:=idx_mem (xs:=kn.map PyData.str) (r:=q.fmod kn.length) hm.1 (by rw [lk]; exact hm.2)
    obtain ⟨x,mk,rfl⟩:=List.mem_map.mp mx
    have fx:Fit ns cs 1 (.nam x):=.nam (hk x mk)
    have nz:((kn.length:Int)=0)=False:=by simp only [eq_iff_iff,iff_false]; exact (fun mvo26=>(linF [kn.length] [] [(1,.nle (.a (.c 0) (.c 1)) (.v 0)),(1,.eq (.n (.v 0)) (.c 0))] rfl l0 mvo26))
    by_cases q3:(p.fdiv 5).fmod 8<3
    · refine ⟨.nam x,?_,fx.mono (by decide)⟩
      exact wkF [.c 2 (hq),.b 0 (hn),.b 1 (show cmpD Cm.eq (PyData.int ((p.fdiv (5:Int)).fmod (8:Int))) (PyData.int (0:Int))=some false by simp only [c_eq,e_int,b0]),.v 2 (show op2 Op2.mod (PyData.int q) (PyData.int (↑(List.map PyData.str kn).length:Int))=some (Rv.fz (PyData.int (q.fmod (↑kn.length:Int)))) by simp only [lk,o_mod,nz,if_false]),.d 0 (hx),.b 0 (show cmpD Cm.lt (PyData.int ((p.fdiv (5:Int)).fmod (8:Int))) (PyData.int (3:Int))=some true by simp only [c_lt,eq_true q3,decide_true])] rfl (by kernel_rfl)
    · have q3':(p.fdiv 5).fmod 8<3↔False:=⟨fun h=>q3 h,False.elim⟩
      obtain ⟨w,hw,mw⟩:=idx_mem (xs:=tameW.map PyData.str) (r:=(p.fdiv 5).fmod 8 - 3) (by exact (lin [] [(p.fdiv (5:Int)).fmod (8:Int)] 1 (.le (.c 0) (.s (.v 0) (.c 3))) [(1,.le (.c 3) (.v 0))] rfl (Int.not_lt.mp q3))) (by show _<(5:Int); exact (lin [] [(p.fdiv (5:Int)).fmod (8:Int)] 1 (.le (.a (.s (.v 0) (.c 3)) (.c 1)) (.c 5)) [(1,.le (.a (.v 0) (.c 1)) (.c 8))] rfl (h8).2))
      obtain ⟨w,mv,rfl⟩:=List.mem_map.mp mw
      have ow:=List.all_eq_true.mp tameW_ok w mv
      rw [Bool.and_eq_true] at ow
      have hw:idxOf [(S [100,111,119,110]),(S [102,105,114,115,116]),(S [114,101,115,116]),(S [114,101,115,116]),(S [100,111,119,110])] ((p.fdiv 5).fmod 8 - 3)=some (.str w):=hw
      by_cases q7:(p.fdiv 5).fmod 8=7∧(q.fdiv 7).fmod 3=0
      · have b7:((p.fdiv 5).fmod 8==7)=true:=by simpa using q7.1
        have c7:((q.fdiv 7).fmod 3==0)=true:=by simpa using q7.2
        refine ⟨.doo ⟨[114,101,115,116].toArray⟩ [.doo ⟨[114,101,115,116].toArray⟩ [.nam x]],?_,one_d (by kernel_rfl) (by kernel_rfl) (one_d (by kernel_rfl) (by kernel_rfl) fx)⟩
        exact wkF [.c 2 (hq),.b 0 (hn),.b 1 (show cmpD Cm.eq (PyData.int ((p.fdiv (5:Int)).fmod (8:Int))) (PyData.int (0:Int))=some false by simp only [c_eq,e_int,b0]),.v 2 (show op2 Op2.mod (PyData.int q) (PyData.int (↑(List.map PyData.str kn).length:Int))=some (Rv.fz (PyData.int (q.fmod (↑kn.length:Int)))) by simp only [lk,o_mod,nz,if_false]),.d 0 (hx),.b 0 (show cmpD Cm.lt (PyData.int ((p.fdiv (5:Int)).fmod (8:Int))) (PyData.int (3:Int))=some false by simp only [c_lt,q3',decide_false]),.d 2 (hw),.b 0 (show cmpD Cm.eq (PyData.int ((p.fdiv (5:Int)).fmod (8:Int))) (PyData.int (7:Int))=some true by simp only [c_eq,e_int,b7]),.b 3 (show cmpD Cm.eq (PyData.int ((q.fdiv (7:Int)).fmod (3:Int))) (PyData.int (0:Int))=some true by simp only [c_eq,e_int,c7])] rfl (by kernel_rfl)
      · refine ⟨.doo w [.nam x],?_,(one_d ow.1 ow.2 fx).mono (by decide)⟩
        by_cases r7:(p.fdiv 5).fmod 8=7
        · have b7:((p.fdiv 5).fmod 8==7)=true:=by simpa using r7
          have c7:((q.fdiv 7).fmod 3==0)=false:=by (have:¬((q.fdiv 7).fmod 3=0):=fun h=>q7 ⟨r7,h⟩); simpa using this
          exact wkF [.c 2 (hq),.b 0 (hn),.b 1 (show cmpD Cm.eq (PyData.int ((p.fdiv (5:Int)).fmod (8:Int))) (PyData.int (0:Int))=some false by simp only [c_eq,e_int,b0]),.v 2 (show op2 Op2.mod (PyData.int q) (PyData.int (↑(List.map PyData.str kn).length:Int))=some (Rv.fz (PyData.int (q.fmod (↑kn.length:Int)))) by simp only [lk,o_mod,nz,if_false]),.d 0 (hx),.b 0 (show cmpD Cm.lt (PyData.int ((p.fdiv (5:Int)).fmod (8:Int))) (PyData.int (3:Int))=some false by simp only [c_lt,q3',decide_false]),.d 2 (hw),.b 0 (show cmpD Cm.eq (PyData.int ((p.fdiv (5:Int)).fmod (8:Int))) (PyData.int (7:Int))=some true by simp only [c_eq,e_int,b7]),.b 3 (show cmpD Cm.eq (PyData.int ((q.fdiv (7:Int)).fmod (3:Int))) (PyData.int (0:Int))=some false by simp only [c_eq,e_int,c7])] rfl (by kernel_rfl)
        · have b7:((p.fdiv 5).fmod 8==7)=false:=by simpa using r7
          exact wkF [.c 2 (hq),.b 0 (hn),.b 1 (show cmpD Cm.eq (PyData.int ((p.fdiv (5:Int)).fmod (8:Int))) (PyData.int (0:Int))=some false by simp only [c_eq,e_int,b0]),.v 2 (show op2 Op2.mod (PyData.int q) (PyData.int (↑(List.map PyData.str kn).length:Int))=some (Rv.fz (PyData.int (q.fmod (↑kn.length:Int)))) by simp only [lk,o_mod,nz,if_false]),.d 0 (hx),.b 0 (show cmpD Cm.lt (PyData.int ((p.fdiv (5:Int)).fmod (8:Int))) (PyData.int (3:Int))=some false by simp only [c_lt,q3',decide_false]),.d 2 (hw),.b 0 (show cmpD Cm.eq (PyData.int ((p.fdiv (5:Int)).fmod (8:Int))) (PyData.int (7:Int))=some false by simp only [c_eq,e_int,b7])] rfl (by kernel_rfl)
end Lq
end
section
namespace Lq
open PySem Mv
structure Hd where
  nm:Str
  ps:List Str
  wn:List Bool
noncomputable abbrev encH (h:Hd) :D:=.tuple [.str h.nm,.tuple (h.ps.map .str),.tuple (h.wn.map .bool)]
structure HOk (cs:List (Str×Nat)) (hs:List Hd) :Prop where
  ne:hs≠ []
  wn:∀h∈hs,h.wn.length=h.ps.length
  le:∀h∈hs,h.ps.length≤6
  ct:∀h∈hs,cnt cs h.nm=some h.ps.length
noncomputable abbrev sN (l:List Str) :Slot:=.fz (.list (l.map .str))
noncomputable abbrev sH (l:List Hd) :Slot:=.fz (.list (l.map encH))
noncomputable def FormAt (ns kn:List Str) (hs:List Hd) (cs:List (Str×Nat)) (m e:Nat) :Prop:= ∀p:Int,Ex12 (fun t=>cF P m false 24 [.fz (.int p),.fz (.int e),sN ns,sN kn,sH hs]=some (.ok (.fz (enc t)),[])) (fun t=>Fit ns cs (e+4) t)
noncomputable abbrev partsB:List St:=[.app (.var 6) (.call 24 [(.call 16 [(.op2 .add (.var 0) (.op2 .mul (.lit (.int 7919)) (.var 7)))]),(.var 2),(.var 3),(.var 4),(.var 5)])]
theorem encs_app (a b:List T) :encs (a++b)=encs a++encs b:=by rw [encs_map,encs_map,encs_map,List.map_append]
theorem range_ok (k:Nat) (h:k≤1000) :(if -1000000000≤(k:Int)∧(k:Int)≤(Sz:Int) then some (rangeL 0 (k:Int).toNat) else none)=some ((List.range k).map fun (k:Nat)=>PyData.int (0+k)):=by
  rw [if_pos ⟨by exact (lin [k] [] 1 (.le (.g (.c 1000000000)) (.n (.v 0))) [] rfl),by show (k:Int)≤16777216; exact (lin [k] [] 1 (.le (.n (.v 0)) (.c 16777216)) [(1,.nle (.v 0) (.c 1000))] rfl h)⟩,Int.toNat_natCast]; rfl
theorem parts_loop {ns kn:List Str} {hs:List Hd} {cs:List (Str×Nat)} {m e:Nat} (hF:FormAt ns kn hs cs (m+1) e) (p:Int) (a1:Slot) :∀(ks:List Nat) (acc:List T) (s7:Slot),acc.length+ks.length≤1000→Ex13 (fun ts=>forB ⟨P.glob,cF P (m+1),[],false⟩ [.fz (.int p),a1,.fz (.int e),sN ns,sN kn,sH hs,.own (.list (encs acc)),s7] (.one 7) partsB [7] (ks.map fun (k:Nat)=>.int (0+k))=some (.ok .next,[.fz (.int p),a1,.fz (.int e),sN ns,sN kn,sH hs,.own (.list (encs (acc++ts))),.no])) (fun ts=>ts.length=ks.length) (fun ts=> ∀t∈ts,Fit ns cs (e+4) t)
  | []=>@fun acc s7 J=>⟨[],by rw [List.map_nil,forB_nil,List.append_nil]; rfl,rfl,fun t h=>by cases h⟩
  | k::ks=>@fun acc s7 hl=>by
    obtain ⟨q,hq⟩:=next_eq m (p+7919*(0+(k:Int)))
    obtain ⟨t,ht,ft⟩:=hF q
    obtain ⟨ts,ih,hle,hf⟩:=parts_loop hF p a1 ks (acc++[t]) (.fz (.int (0+k))) (by simp only [List.length_append,List.length_cons,List.length_nil] at *; exact (lin [acc.length,ks.length] [] 1 (.nle (.a (.a (.v 0) (.a (.c 0) (.c 1))) (.v 1)) (.c 1000)) [(1,.nle (.a (.v 0) (.a (.v 1) (.c 1))) (.c 1000))] rfl hl))
    refine ⟨t::ts,?_,by rw [List.length_cons,List.length_cons,hle],fun u hu=>?_⟩
    · have hm:=mulI_l (a:=7919) (b:=0+(k:Int)) (by decide)
      have hz:(encs acc).length<Sz:=by rw [encs_len]; simp only [List.length_cons] at hl; show acc.length<16777216; exact (lin [acc.length,ks.length] [] 1 (.nle (.a (.v 0) (.c 1)) (.c 16777216)) [(1,.nle (.a (.v 0) (.a (.v 1) (.c 1))) (.c 1000))] rfl hl)
      rw [encs_app,List.append_assoc] at ih
      rw [List.map_cons]
      exact wkL [.v 0 (hm),.c 1 (hq),.c 0 (ht),.t 0 (show decide ((encs acc).length<Sz)=true by simp only [hz,decide_true]),.lp 0 (ih)] rfl (by kernel_rfl)
    · rcases List.mem_cons.mp hu with rfl | hu
      · exact ft
      · exact hf u hu
theorem parts_eq {ns kn:List Str} {hs:List Hd} {cs:List (Str×Nat)} {m e:Nat} (hF:FormAt ns kn hs cs (m+1) e) (p:Int) (many:Nat) (hm:many≤1000) :Ex13 (fun ts=>cF P (m+2) false 21 [.fz (.int p),.fz (.int many),.fz (.int e),sN ns,sN kn,sH hs]=some (.ok (.fz (.tuple (encs ts))),[])) (fun ts=>ts.length=many) (fun ts=> ∀t∈ts,Fit ns cs (e+4) t):=by
  obtain ⟨ts,ih,hl,hf⟩:=parts_loop hF p (.fz (.int many)) (List.range many) [] .no (by rw [List.length_range]; show 0+many≤1000; exact (lin [many] [] 1 (.nle (.a (.c 0) (.v 0)) (.c 1000)) [(1,.nle (.v 0) (.c 1000))] rfl hm))
  rw [List.nil_append,show encs []=[] from rfl] at ih
  refine ⟨ts,?_,by rw [hl,List.length_range],hf⟩
  have hr:=range_ok many hm
  exact wkF [.l 0 (show iterD Itk.range [PyData.int (↑many:Int)]=some (List.map (fun (k:Nat)=>PyData.int ((0:Int)+(↑k:Int))) (List.range many)) by simp only [it_range,Int.reduceNeg,hr]),.lp 0 (ih)] rfl (by kernel_rfl)
noncomputable abbrev callB:List St:=[.asg (.one 8) (.call 16 [(.op2 .add (.var 0) (.op2 .mul (.lit (.int 7919)) (.var 7)))]),
      .iff (.idx (.idx (.var 5) (.lit (.int 2))) (.var 7)) [.app (.var 6) (.call 20 [(.var 8),(.var 3),(.var 4)])] [.app (.var 6) (.call 24 [(.var 8),(.var 1),(.var 2),(.var 3),(.var 4)])]]
theorem wn_get (l:List Bool) (k:Nat) (h:k<l.length) :∃b,idxOf (l.map PyData.bool) (0+(k:Int))=some (.bool b):=by
  obtain ⟨d,hd,m⟩:=idx_mem (xs:=l.map PyData.bool) (r:=0+(k:Int)) (by exact (lin [k] [] 1 (.le (.c 0) (.a (.c 0) (.n (.v 0)))) [] rfl)) (by rw [List.length_map]; exact (lin [k,l.length] [] 1 (.le (.a (.a (.c 0) (.n (.v 0))) (.c 1)) (.n (.v 1))) [(1,.nle (.a (.v 0) (.c 1)) (.v 1))] rfl h))
  obtain ⟨b,_,rfl⟩:=List.mem_map.mp m
  exact ⟨b,hd⟩
theorem call_loop {ns kn:List Str} {hs:List Hd} {cs:List (Str×Nat)} {m e:Nat} (hF:FormAt ns kn hs cs (m+2) e) (hk:∀x∈kn,x∈ns) (p:Int) (h:Hd) :∀(ks:List Nat) (acc:List T) (s7 s8:Slot),(∀k∈ks,k<h.wn.length)→acc.length+ks.length≤1000→Ex13 (fun ts=>forB ⟨P.glob,cF P (m+2),[],false⟩ [.fz (.int p),.fz (.int e),sN ns,sN kn,sH hs,.fz (encH h),.own (.list (encs acc)),s7,s8] (.one 7) callB [7,8] (ks.map fun (k:Nat)=>.int (0+k))=some (.ok .next,[.fz (.int p),.fz (.int e),sN ns,sN kn,sH hs,.fz (encH h),.own (.list (encs (acc++ts))),.no,.no])) (fun ts=>ts.length=ks.length) (fun ts=> ∀t∈ts,Fit ns cs (e+4) t)
  | []=>@fun acc s7 s8 J U=>⟨[],by rw [List.map_nil,forB_nil,List.append_nil]; rfl,rfl,fun t h=>by cases h⟩
  | k::ks=>@fun acc s7 s8 hw hl=>by
    obtain ⟨q,hq⟩:=next_eq (m+1) (p+7919*(0+(k:Int)))
    obtain ⟨b,hb⟩:=wn_get h.wn k (hw k List.mem_cons_self)
    have hm:=mulI_l (a:=7919) (b:=0+(k:Int)) (by decide)
    have hz:(encs acc).length<Sz:=by rw [encs_len]; simp only [List.length_cons] at hl; show acc.length<16777216; exact (lin [acc.length,ks.length] [] 1 (.nle (.a (.v 0) (.c 1)) (.c 16777216)) [(1,.nle (.a (.v 0) (.a (.v 1) (.c 1))) (.c 1000))] rfl hl)
    have hl':∀t:T,(acc++[t]).length+ks.length≤1000:=fun t=>by simp only [List.length_append,List.length_cons,List.length_nil] at *; exact (lin [acc.length,ks.length] [] 1 (.nle (.a (.a (.v 0) (.a (.c 0) (.c 1))) (.v 1)) (.c 1000)) [(1,.nle (.a (.v 0) (.a (.v 1) (.c 1))) (.c 1000))] rfl hl)
    cases b with
    | true=>
      obtain ⟨t,ht,ft⟩:=tame_eq m q kn (hs.map encH) ns cs hk
      obtain ⟨ts,ih,hle,hf⟩:=call_loop hF hk p h ks (acc++[t]) (.fz (.int (0+k))) (.fz (.int q)) (fun j hj=>hw j (List.mem_cons_of_mem _ hj)) (hl' t)
      refine ⟨t::ts,?_,by rw [List.length_cons,List.length_cons,hle],fun u hu=>?_⟩
      · rw [encs_app,List.append_assoc] at ih
        rw [List.map_cons]
        exact wkL [.v 0 (hm),.c 1 (hq),.d 1 (hb),.c 1 (ht),.t 0 (show decide ((encs acc).length<Sz)=true by simp only [hz,decide_true]),.lp 0 (ih)] rfl (by kernel_rfl)
      · rcases List.mem_cons.mp hu with rfl | hu
        · exact ft.mono (by exact (lin [e] [] 1 (.nle (.c 3) (.a (.v 0) (.c 4))) [] rfl))
        · exact hf u hu
    | false=>
      obtain ⟨t,ht,ft⟩:=hF q
      obtain ⟨ts,ih,hle,hf⟩:=call_loop hF hk p h ks (acc++[t]) (.fz (.int (0+k))) (.fz (.int q)) (fun j hj=>hw j (List.mem_cons_of_mem _ hj)) (hl' t)
      refine ⟨t::ts,?_,by rw [List.length_cons,List.length_cons,hle],fun u hu=>?_⟩
      · rw [encs_app,List.append_assoc] at ih
        rw [List.map_cons]
        exact wkL [.v 0 (hm),.c 1 (hq),.d 1 (hb),.c 1 (ht),.t 0 (show decide ((encs acc).length<Sz)=true by simp only [hz,decide_true]),.lp 0 (ih)] rfl (by kernel_rfl)
      · rcases List.mem_cons.mp hu with rfl | hu
        · exact ft
        · exact hf u hu
theorem call_eq {ns kn:List Str} {hs:List Hd} {cs:List (Str×Nat)} {m e:Nat} (hF:FormAt ns kn hs cs (m+2) e) (hk:∀x∈kn,x∈ns) (hh:HOk cs hs) (p:Int) :Ex12 (fun t=>cF P (m+3) false 22 [.fz (.int p),.fz (.int e),sN ns,sN kn,sH hs]=some (.ok (.fz (enc t)),[])) (fun t=>Fit ns cs (e+5) t):=by
  have l0:0<hs.length:=List.length_pos_iff.mpr hh.ne
  have lk:(((hs.map encH).length:Nat) :Int)=(hs.length:Int):=by rw [List.length_map]
  have nz:((hs.length:Int)=0)=False:=by simp only [eq_iff_iff,iff_false]; exact (fun mvo13=>(linF [hs.length] [] [(1,.nle (.a (.c 0) (.c 1)) (.v 0)),(1,.eq (.n (.v 0)) (.c 0))] rfl l0 mvo13))
  have hm:=fm p hs.length (by exact (lin [hs.length] [] 1 (.le (.a (.c 0) (.c 1)) (.n (.v 0))) [(1,.nle (.a (.c 0) (.c 1)) (.v 0))] rfl l0))
  obtain ⟨x,hx,mx⟩:=idx_mem (xs:=hs.map encH) (r:=p.fmod hs.length) hm.1 (by rw [lk]; exact hm.2)
  obtain ⟨h,mh,rfl⟩:=List.mem_map.mp mx
  have h6:=hh.le h mh
  obtain ⟨ts,ih,hl,hf⟩:=call_loop hF hk p h (List.range h.ps.length) [] .no .no (fun k hk=>by rw [hh.wn h mh]; exact List.mem_range.mp hk) (by rw [List.length_range]; show 0+h.ps.length≤1000; exact (lin [h.ps.length] [] 1 (.nle (.a (.c 0) (.v 0)) (.c 1000)) [(1,.nle (.v 0) (.c 6))] rfl h6))
  rw [List.nil_append,show encs []=[] from rfl] at ih
  rw [List.length_range] at hl
  refine ⟨.call h.nm ts,?_,(Fit.call (by rw [hh.ct h mh,hl]) hf)⟩
  have hr:=range_ok h.ps.length (by exact (lin [h.ps.length] [] 1 (.nle (.v 0) (.c 1000)) [(1,.nle (.v 0) (.c 6))] rfl h6))
  have lp:(((h.ps.map PyData.str).length:Nat) :Int)=(h.ps.length:Int):=by rw [List.length_map]
  exact wkF [.v 1 (show op2 Op2.mod (PyData.int p) (PyData.int (↑(List.map encH hs).length:Int))=some (Rv.fz (PyData.int (p.fmod (↑hs.length:Int)))) by simp only [lk,o_mod,nz,if_false]),.d 0 (hx),.l 2 (show iterD Itk.range [PyData.int (↑(List.map PyData.str h.ps).length:Int)]=some (List.map (fun (k:Nat)=>PyData.int ((0:Int)+(↑k:Int))) (List.range h.ps.length)) by simp only [lp,it_range,Int.reduceNeg,hr]),.lp 0 (ih)] rfl (by kernel_rfl)
noncomputable abbrev do12:List Str:=[k_plus,k_minus,k_times,k_over,k_less,k_same,k_join,k_first,k_rest,k_empty,k_down,k_list]
noncomputable abbrev do4:List Str:=[k_first,k_rest,k_empty,k_down]
noncomputable def doB (w:Str) :Bool:=isOp w&&(if memS w do4 then takesB w 1 && !decide (w=k_list) else if w=k_list then true else takesB w 2)
theorem do_all:do12.all doB=true:=by kernel_rfl
theorem in_do4 (x:Str) :inD (.str x) (.tuple [(S [102,105,114,115,116]),(S [114,101,115,116]),(S [101,109,112,116,121]),(S [100,111,119,110])])=some (memS x do4):=in_strT x do4
theorem do_eq {ns kn:List Str} {hs:List Hd} {cs:List (Str×Nat)} {m e:Nat} (hF:FormAt ns kn hs cs (m+1) e) (hF0:FormAt ns kn hs cs (m+1) 0) (p:Int) :Ex12 (fun t=>cF P (m+3) false 23 [.fz (.int p),.fz (.int e),sN ns,sN kn,sH hs]=some (.ok (.fz (enc t)),[])) (fun t=>Fit ns cs (e+5) t):=by
  have h12:=fm p 12 (by decide)
  have h8:=fm (p.fdiv 12) 8 (by decide)
  obtain ⟨x,hx,mx⟩:=idx_mem (xs:=do12.map PyData.str) (r:=p.fmod 12) h12.1 h12.2
  obtain ⟨w,mw,rfl⟩:=List.mem_map.mp mx
  have hx:idxOf [(S [112,108,117,115]),(S [109,105,110,117,115]),(S [116,105,109,101,115]),(S [111,118,101,114]),(S [108,101,115,115]),(S [115,97,109,101]),(S [106,111,105,110]),(S [102,105,114,115,116]),(S [114,101,115,116]),(S [101,109,112,116,121]),(S [100,111,119,110]),(S [108,105,115,116])] (p.fmod 12)=some (.str w):=hx
  have hw:=List.all_eq_true.mp do_all w mw
  have h4:=in_do4 w
  obtain ⟨q,hq⟩:=next_eq (m+1) p
  unfold doB at hw
  rw [Bool.and_eq_true] at hw
  cases q4:memS w do4 with
  | true=>
    rw [q4] at h4 hw
    simp only [if_true,Bool.and_eq_true,Bool.not_eq_true',decide_eq_false_iff_not] at hw
    obtain ⟨ts,ht,hl,hf⟩:=parts_eq hF q 1 (by decide)
    refine ⟨.doo w ts,?_,Fit.doo hw.1 (by rw [hl]; exact hw.2.1) hf⟩
    have nl:(w=k_list)=False:=by simp only [eq_iff_iff,iff_false]; exact hw.2.2
    have ht:cF P (m+2) false 21 [.fz (.int q),.fz (.int 1),.fz (.int e),sN ns,sN kn,sH hs]=some (.ok (.fz (.tuple (encs ts))),[]):=ht
    exact wkF [.d 1 (hx),.b 0 (h4),.b 1 (show cmpD Cm.eq (PyData.str w) (PyData.str {cps:=#[(108:Nat),(105:Nat),(115:Nat),(116:Nat)]})=some false by simp only [c_eqS,nl,decide_false]),.c 3 (hq),.c 0 (ht)] rfl (by kernel_rfl)
  | false=>
    rw [q4] at h4 hw
    simp only [Bool.false_eq_true,if_false] at hw
    by_cases ql:w=k_list
    · have tl:(w=k_list)=True:=by simp only [ql]
      obtain ⟨y,hy,my⟩:=idx_mem (xs:=([0,1,2,3,8,5,1,2] :List Nat).map fun (k:Nat)=>PyData.int k) (r:=(p.fdiv 12).fmod 8) h8.1 h8.2
      obtain ⟨k,mk,rfl⟩:=List.mem_map.mp my
      have hy:idxOf [PyData.int 0,.int 1,.int 2,.int 3,.int 8,.int 5,.int 1,.int 2] ((p.fdiv 12).fmod 8)=some (.int k):=hy
      have k8:k≤8:=by simp only [List.mem_cons,List.not_mem_nil,or_false] at mk; omega
      have tk:takesB w k=true:=by unfold takesB; rw [if_pos ql,decide_eq_true (by exact (lin [k] [] 1 (.le (.n (.v 0)) (.c 8)) [(1,.nle (.v 0) (.c 8))] rfl k8))]
      by_cases q3:(3:Int)<k
      · obtain ⟨ts,ht,hl,hf⟩:=parts_eq hF0 q k (by exact (lin [k] [] 1 (.nle (.v 0) (.c 1000)) [(1,.nle (.v 0) (.c 8))] rfl k8))
        have ht:cF P (m+2) false 21 [.fz (.int q),.fz (.int k),.fz (.int 0),sN ns,sN kn,sH hs]=some (.ok (.fz (.tuple (encs ts))),[]):=ht
        refine ⟨.doo w ts,?_,(Fit.doo hw.1 (by rw [hl]; exact tk) hf).mono (by exact (lin [e] [] 1 (.nle (.a (.a (.c 0) (.c 4)) (.c 1)) (.a (.v 0) (.c 5))) [] rfl))⟩
        exact wkF [.d 1 (hx),.b 0 (h4),.b 1 (show cmpD Cm.eq (PyData.str w) (PyData.str {cps:=#[(108:Nat),(105:Nat),(115:Nat),(116:Nat)]})=some true by simp only [c_eqS,tl,decide_true]),.d 3 (hy),.b 0 (show cmpD Cm.gt (PyData.int (↑k:Int)) (PyData.int (3:Int))=some true by simp only [c_gt,eq_true q3,decide_true]),.c 1 (hq),.c 0 (ht)] rfl (by kernel_rfl)
      · obtain ⟨ts,ht,hl,hf⟩:=parts_eq hF q k (by exact (lin [k] [] 1 (.nle (.v 0) (.c 1000)) [(1,.nle (.v 0) (.c 8))] rfl k8))
        refine ⟨.doo w ts,?_,Fit.doo hw.1 (by rw [hl]; exact tk) hf⟩
        have q3':(3:Int)<k↔False:=⟨q3,False.elim⟩
        exact wkF [.d 1 (hx),.b 0 (h4),.b 1 (show cmpD Cm.eq (PyData.str w) (PyData.str {cps:=#[(108:Nat),(105:Nat),(115:Nat),(116:Nat)]})=some true by simp only [c_eqS,tl,decide_true]),.d 3 (hy),.b 0 (show cmpD Cm.gt (PyData.int (↑k:Int)) (PyData.int (3:Int))=some false by simp only [c_gt,q3',decide_false]),.c 1 (hq),.c 0 (ht)] rfl (by kernel_rfl)
    · rw [if_neg ql] at hw
      have nl:(w=k_list)=False:=by simp only [eq_iff_iff,iff_false]; exact ql
      obtain ⟨ts,ht,hl,hf⟩:=parts_eq hF q 2 (by decide)
      refine ⟨.doo w ts,?_,Fit.doo hw.1 (by rw [hl]; exact hw.2) hf⟩
      have ht:cF P (m+2) false 21 [.fz (.int q),.fz (.int 2),.fz (.int e),sN ns,sN kn,sH hs]=some (.ok (.fz (.tuple (encs ts))),[]):=ht
      exact wkF [.d 1 (hx),.b 0 (h4),.b 1 (show cmpD Cm.eq (PyData.str w) (PyData.str {cps:=#[(108:Nat),(105:Nat),(115:Nat),(116:Nat)]})=some false by simp only [c_eqS,nl,decide_false]),.c 3 (hq),.c 0 (ht)] rfl (by kernel_rfl)
end Lq
end
section
namespace Lq
open PySem Mv
theorem form_leaf {ns kn:List Str} {hs:List Hd} (cs:List (Str×Nat)) (m e:Nat) (p:Int) (h:e=0∨(p.fdiv 3).fmod 13<3) :Ex12 (fun t=>cF P (m+2) false 24 [.fz (.int p),.fz (.int e),sN ns,sN kn,sH hs]=some (.ok (.fz (enc t)),[])) (fun t=>Fit ns cs 1 t):=by
  obtain ⟨q,hq⟩:=next_eq m p
  obtain ⟨d,hd,hv⟩:=value_eq m (q.fdiv 4)
  have hn:=eq_nil ns
  have hor:∀(X Y:Option (Except Str Rv×List Slot)),True:=fun J U=>trivial
  have key:((e:Int)==0)=true∨(((e:Int)==0)=false∧(p.fdiv 3).fmod 13<3):=by
    by_cases q0:e=0
    · left; subst q0; rfl
    · right
      refine ⟨?_,h.resolve_left q0⟩
      have:¬((e:Int)=0):=by exact (fun mvo17=>(Or.elim (Nat.lt_or_gt_of_ne q0) (fun mvs18=>(linF [e] [] [(-1,.eq (.n (.v 0)) (.c 0)),(1,.nle (.a (.v 0) (.c 1)) (.c 0))] rfl mvo17 mvs18)) (fun mvs18=>(linF [e] [] [(1,.eq (.n (.v 0)) (.c 0)),(1,.nle (.a (.c 0) (.c 1)) (.v 0))] rfl mvo17 mvs18))))
      simpa using this
  by_cases qn:ns=[]
  · rw [decide_eq_true qn] at hn
    refine ⟨.val d,?_,.val hv⟩
    rcases key with k0 | ⟨k0,k3⟩
    · exact wkF [.c 2 (hq),.b 0 (show cmpD Cm.eq (PyData.int (↑e:Int)) (PyData.int (0:Int))=some true by simp only [c_eq,e_int,k0]),.b 2 (show cmpD Cm.ne (PyData.list (List.map PyData.str ns)) (PyData.list [])=some false by simp only [c_ne,hn,Option.map_some,Bool.not_true]),.c 3 (hd)] rfl (by kernel_rfl)
    · exact wkF [.c 2 (hq),.b 0 (show cmpD Cm.eq (PyData.int (↑e:Int)) (PyData.int (0:Int))=some false by simp only [c_eq,e_int,k0]),.b 1 (show cmpD Cm.lt (PyData.int ((p.fdiv (3:Int)).fmod (13:Int))) (PyData.int (3:Int))=some true by simp only [c_lt,eq_true k3,decide_true]),.b 1 (show cmpD Cm.ne (PyData.list (List.map PyData.str ns)) (PyData.list [])=some false by simp only [c_ne,hn,Option.map_some,Bool.not_true]),.c 3 (hd)] rfl (by kernel_rfl)
  · rw [decide_eq_false qn] at hn
    have lk:(((ns.map PyData.str).length:Nat) :Int)=(ns.length:Int):=by rw [List.length_map]
    have l0:0<ns.length:=List.length_pos_iff.mpr qn
    have nz:((ns.length:Int)=0)=False:=by simp only [eq_iff_iff,iff_false]; exact (fun mvo20=>(linF [ns.length] [] [(1,.nle (.a (.c 0) (.c 1)) (.v 0)),(1,.eq (.n (.v 0)) (.c 0))] rfl l0 mvo20))
    have hm:=fm (q.fdiv 4) ns.length (by exact (lin [ns.length] [] 1 (.le (.a (.c 0) (.c 1)) (.n (.v 0))) [(1,.nle (.a (.c 0) (.c 1)) (.v 0))] rfl l0))
    obtain ⟨x,hx,mx⟩:=idx_mem (xs:=ns.map PyData.str) (r:=(q.fdiv 4).fmod ns.length) hm.1 (by rw [lk]; exact hm.2)
    obtain ⟨x,mk,rfl⟩:=List.mem_map.mp mx
    by_cases q4:0<q.fmod 4
    · refine ⟨.nam x,?_,.nam mk⟩
      rcases key with k0 | ⟨k0,k3⟩
      · exact wkF [.c 2 (hq),.b 0 (show cmpD Cm.eq (PyData.int (↑e:Int)) (PyData.int (0:Int))=some true by simp only [c_eq,e_int,k0]),.b 2 (show cmpD Cm.ne (PyData.list (List.map PyData.str ns)) (PyData.list [])=some true by simp only [c_ne,hn,Option.map_some,Bool.not_false]),.b 2 (show cmpD Cm.gt (PyData.int (q.fmod (4:Int))) (PyData.int (0:Int))=some true by simp only [c_gt,eq_true q4,decide_true]),.v 3 (show op2 Op2.mod (PyData.int (q.fdiv (4:Int))) (PyData.int (↑(List.map PyData.str ns).length:Int))=some (Rv.fz (PyData.int ((q.fdiv (4:Int)).fmod (↑ns.length:Int)))) by simp only [lk,o_mod,nz,if_false]),.d 0 (hx)] rfl (by kernel_rfl)
      · exact wkF [.c 2 (hq),.b 0 (show cmpD Cm.eq (PyData.int (↑e:Int)) (PyData.int (0:Int))=some false by simp only [c_eq,e_int,k0]),.b 1 (show cmpD Cm.lt (PyData.int ((p.fdiv (3:Int)).fmod (13:Int))) (PyData.int (3:Int))=some true by simp only [c_lt,eq_true k3,decide_true]),.b 1 (show cmpD Cm.ne (PyData.list (List.map PyData.str ns)) (PyData.list [])=some true by simp only [c_ne,hn,Option.map_some,Bool.not_false]),.b 2 (show cmpD Cm.gt (PyData.int (q.fmod (4:Int))) (PyData.int (0:Int))=some true by simp only [c_gt,eq_true q4,decide_true]),.v 3 (show op2 Op2.mod (PyData.int (q.fdiv (4:Int))) (PyData.int (↑(List.map PyData.str ns).length:Int))=some (Rv.fz (PyData.int ((q.fdiv (4:Int)).fmod (↑ns.length:Int)))) by simp only [lk,o_mod,nz,if_false]),.d 0 (hx)] rfl (by kernel_rfl)
    · have q4':0<q.fmod 4↔False:=⟨q4,False.elim⟩
      refine ⟨.val d,?_,.val hv⟩
      rcases key with k0 | ⟨k0,k3⟩
      · exact wkF [.c 2 (hq),.b 0 (show cmpD Cm.eq (PyData.int (↑e:Int)) (PyData.int (0:Int))=some true by simp only [c_eq,e_int,k0]),.b 2 (show cmpD Cm.ne (PyData.list (List.map PyData.str ns)) (PyData.list [])=some true by simp only [c_ne,hn,Option.map_some,Bool.not_false]),.b 2 (show cmpD Cm.gt (PyData.int (q.fmod (4:Int))) (PyData.int (0:Int))=some false by simp only [c_gt,q4',decide_false]),.c 2 (hd)] rfl (by kernel_rfl)
      · exact wkF [.c 2 (hq),.b 0 (show cmpD Cm.eq (PyData.int (↑e:Int)) (PyData.int (0:Int))=some false by simp only [c_eq,e_int,k0]),.b 1 (show cmpD Cm.lt (PyData.int ((p.fdiv (3:Int)).fmod (13:Int))) (PyData.int (3:Int))=some true by simp only [c_lt,eq_true k3,decide_true]),.b 1 (show cmpD Cm.ne (PyData.list (List.map PyData.str ns)) (PyData.list [])=some true by simp only [c_ne,hn,Option.map_some,Bool.not_false]),.b 2 (show cmpD Cm.gt (PyData.int (q.fmod (4:Int))) (PyData.int (0:Int))=some false by simp only [c_gt,q4',decide_false]),.c 2 (hd)] rfl (by kernel_rfl)
theorem form_all {ns kn:List Str} {hs:List Hd} {cs:List (Str×Nat)} (hk:∀x∈kn,x∈ns) (hh:HOk cs hs) :∀(e m:Nat),3*e+3≤m→FormAt ns kn hs cs m e
  | 0=>@fun m hm p=>by
    obtain ⟨k,rfl⟩ :∃k,m=k+2:=⟨m - 2,by exact (Nat.le_antisymm (lin [m,m - (2:Nat)] [] 1 (.nle (.v 0) (.a (.v 1) (.c 2))) [(-1,.neq (.a (.v 1) (.c 2)) (.v 0))] rfl (Nat.sub_add_cancel (n:=m) (m:=(2:Nat)) (lin [m] [] 1 (.nle (.c 2) (.v 0)) [(1,.nle (.a (.m 3 (.c 0)) (.c 3)) (.v 0))] rfl hm))) (lin [m - (2:Nat),m] [] 1 (.nle (.a (.v 0) (.c 2)) (.v 1)) [(1,.neq (.a (.v 0) (.c 2)) (.v 1))] rfl (Nat.sub_add_cancel (n:=m) (m:=(2:Nat)) (lin [m] [] 1 (.nle (.c 2) (.v 0)) [(1,.nle (.a (.m 3 (.c 0)) (.c 3)) (.v 0))] rfl hm))))⟩
    obtain ⟨t,a,b⟩:=form_leaf (ns:=ns) (kn:=kn) (hs:=hs) cs k 0 p (.inl rfl)
    exact ⟨t,a,b.mono (by exact (lin [] [] 1 (.nle (.c 1) (.a (.c 0) (.c 4))) [] rfl))⟩
  | e+1=>@fun m hm p=>by
    obtain ⟨k,rfl⟩ :∃k,m=k+4:=⟨m - 4,by exact (Nat.le_antisymm (lin [m,m - (4:Nat)] [] 1 (.nle (.v 0) (.a (.v 1) (.c 4))) [(-1,.neq (.a (.v 1) (.c 4)) (.v 0))] rfl (Nat.sub_add_cancel (n:=m) (m:=(4:Nat)) (lin [m,e] [] 1 (.nle (.c 4) (.v 0)) [(1,.nle (.a (.m 3 (.a (.v 1) (.c 1))) (.c 3)) (.v 0))] rfl hm))) (lin [m - (4:Nat),m] [] 1 (.nle (.a (.v 0) (.c 4)) (.v 1)) [(1,.neq (.a (.v 0) (.c 4)) (.v 1))] rfl (Nat.sub_add_cancel (n:=m) (m:=(4:Nat)) (lin [m,e] [] 1 (.nle (.c 4) (.v 0)) [(1,.nle (.a (.m 3 (.a (.v 1) (.c 1))) (.c 3)) (.v 0))] rfl hm))))⟩
    by_cases q3:(p.fdiv 3).fmod 13<3
    · obtain ⟨t,a,b⟩:=form_leaf (ns:=ns) (kn:=kn) (hs:=hs) cs (k+2) (e+1) p (.inr q3)
      exact ⟨t,a,b.mono (by exact (lin [e] [] 1 (.nle (.c 1) (.a (.a (.v 0) (.c 1)) (.c 4))) [] rfl))⟩
    have q3':(p.fdiv 3).fmod 13<3↔False:=⟨q3,False.elim⟩
    have k0:(((e+1:Nat) :Int)==0)=false:=sz0 e
    have ee:((e+1:Nat) :Int) - 1=(e:Int):=by exact (Int.le_antisymm (lin [e] [] 1 (.le (.s (.n (.a (.v 0) (.c 1))) (.c 1)) (.n (.v 0))) [] rfl) (lin [e] [] 1 (.le (.n (.v 0)) (.s (.n (.a (.v 0) (.c 1))) (.c 1))) [] rfl))
    obtain ⟨q,hq⟩:=next_eq (k+2) p
    by_cases q6:(p.fdiv 3).fmod 13<6
    · obtain ⟨ts,ht,hl,hf⟩:=parts_eq (m:=k+1) (form_all hk hh e (k+2) (by exact (lin [e,k] [] 1 (.nle (.a (.m 3 (.v 0)) (.c 3)) (.a (.v 1) (.c 2))) [(1,.nle (.a (.m 3 (.a (.v 0) (.c 1))) (.c 3)) (.a (.v 1) (.c 4)))] rfl hm))) q 3 (by decide)
      have ht:cF P (k+3) false 21 [.fz (.int q),.fz (.int 3),.fz (.int e),sN ns,sN kn,sH hs]=some (.ok (.fz (.tuple (encs ts))),[]):=ht
      refine ⟨.iff ts,?_,Fit.iff hl hf⟩
      have hz:([S [105,102]] :List D).length+(encs ts).length≤Sz:=by rw [encs_len,hl]; decide
      exact wkF [.c 2 (hq),.b 2 (show cmpD Cm.lt (PyData.int ((p.fdiv (3:Int)).fmod (13:Int))) (PyData.int (3:Int))=some false by simp only [c_lt,q3',decide_false]),.b 1 (show cmpD Cm.lt (PyData.int ((p.fdiv (3:Int)).fmod (13:Int))) (PyData.int (6:Int))=some true by simp only [c_lt,eq_true q6,decide_true]),.c 2 (show cF P (k+(3:Nat)) false (21:Nat) [Slot.fz (PyData.int q),Slot.fz (PyData.int (3:Int)),Slot.fz (PyData.int ((↑(e+(1:Nat)) :Int) - (1:Int))),Slot.fz (PyData.list (List.map PyData.str ns)),Slot.fz (PyData.list (List.map PyData.str kn)),Slot.fz (PyData.list (List.map encH hs))]=some (Except.ok (Rv.fz (PyData.tuple (encs ts))),[]) by simp only [ee,ht]),.v 0 (show op2 Op2.add (PyData.tuple [PyData.str {cps:=#[(105:Nat),(102:Nat)]}]) (PyData.tuple (encs ts))=some (Rv.fz (PyData.tuple ([PyData.str {cps:=#[(105:Nat),(102:Nat)]}]++encs ts))) by simp only [o_addT,eq_true hz,if_true])] rfl (by kernel_rfl)
    have q6':(p.fdiv 3).fmod 13<6↔False:=⟨q6,False.elim⟩
    by_cases q9:(p.fdiv 3).fmod 13<9
    · obtain ⟨t,ht,hf⟩:=do_eq (m:=k) (form_all hk hh e (k+1) (by exact (lin [e,k] [] 1 (.nle (.a (.m 3 (.v 0)) (.c 3)) (.a (.v 1) (.c 1))) [(1,.nle (.a (.m 3 (.a (.v 0) (.c 1))) (.c 3)) (.a (.v 1) (.c 4)))] rfl hm))) (form_all hk hh 0 (k+1) (by exact (lin [k,e] [] 1 (.nle (.a (.m 3 (.c 0)) (.c 3)) (.a (.v 0) (.c 1))) [(1,.nle (.a (.m 3 (.a (.v 1) (.c 1))) (.c 3)) (.a (.v 0) (.c 4)))] rfl hm))) q
      refine ⟨t,?_,hf⟩
      exact wkF [.c 2 (hq),.b 2 (show cmpD Cm.lt (PyData.int ((p.fdiv (3:Int)).fmod (13:Int))) (PyData.int (3:Int))=some false by simp only [c_lt,q3',decide_false]),.b 1 (show cmpD Cm.lt (PyData.int ((p.fdiv (3:Int)).fmod (13:Int))) (PyData.int (6:Int))=some false by simp only [c_lt,q6',decide_false]),.b 1 (show cmpD Cm.lt (PyData.int ((p.fdiv (3:Int)).fmod (13:Int))) (PyData.int (9:Int))=some true by simp only [c_lt,eq_true q9,decide_true]),.c 2 (show cF P (k+(3:Nat)) false (23:Nat) [Slot.fz (PyData.int q),Slot.fz (PyData.int ((↑(e+(1:Nat)) :Int) - (1:Int))),Slot.fz (PyData.list (List.map PyData.str ns)),Slot.fz (PyData.list (List.map PyData.str kn)),Slot.fz (PyData.list (List.map encH hs))]=some (Except.ok (Rv.fz (enc t)),[]) by simp only [ee,ht])] rfl (by kernel_rfl)
    have q9':(p.fdiv 3).fmod 13<9↔False:=⟨q9,False.elim⟩
    by_cases q12:(p.fdiv 3).fmod 13<12
    · obtain ⟨t,ht,hf⟩:=call_eq (m:=k) (form_all hk hh e (k+2) (by exact (lin [e,k] [] 1 (.nle (.a (.m 3 (.v 0)) (.c 3)) (.a (.v 1) (.c 2))) [(1,.nle (.a (.m 3 (.a (.v 0) (.c 1))) (.c 3)) (.a (.v 1) (.c 4)))] rfl hm))) hk hh q
      refine ⟨t,?_,hf⟩
      exact wkF [.c 2 (hq),.b 2 (show cmpD Cm.lt (PyData.int ((p.fdiv (3:Int)).fmod (13:Int))) (PyData.int (3:Int))=some false by simp only [c_lt,q3',decide_false]),.b 1 (show cmpD Cm.lt (PyData.int ((p.fdiv (3:Int)).fmod (13:Int))) (PyData.int (6:Int))=some false by simp only [c_lt,q6',decide_false]),.b 1 (show cmpD Cm.lt (PyData.int ((p.fdiv (3:Int)).fmod (13:Int))) (PyData.int (9:Int))=some false by simp only [c_lt,q9',decide_false]),.b 1 (show cmpD Cm.lt (PyData.int ((p.fdiv (3:Int)).fmod (13:Int))) (PyData.int (12:Int))=some true by simp only [c_lt,eq_true q12,decide_true]),.c 2 (show cF P (k+(3:Nat)) false (22:Nat) [Slot.fz (PyData.int q),Slot.fz (PyData.int ((↑(e+(1:Nat)) :Int) - (1:Int))),Slot.fz (PyData.list (List.map PyData.str ns)),Slot.fz (PyData.list (List.map PyData.str kn)),Slot.fz (PyData.list (List.map encH hs))]=some (Except.ok (Rv.fz (enc t)),[]) by simp only [ee,ht])] rfl (by kernel_rfl)
    have q12':(p.fdiv 3).fmod 13<12↔False:=⟨q12,False.elim⟩
    have h6:=fm q 6 (by decide)
    obtain ⟨x,hx,mx⟩:=idx_mem (xs:=wordsS.map PyData.str) (r:=q.fmod 6) h6.1 h6.2
    obtain ⟨x,mk,rfl⟩:=List.mem_map.mp mx
    have hx:idxOf [(S [78,111,78,117,109,98,101,114]),(S [78,111,76,105,115,116]),(S [78,111,70,105,114,115,116]),(S [78,111,68,111,119,110]),(S [66,121,78,111,117,103,104,116]),(S [84,111,111,71,114,101,97,116])] (q.fmod 6)=some (.str x):=hx
    refine ⟨.ref x,?_,(Fit.ref mk).mono (by exact (lin [e] [] 1 (.nle (.c 1) (.a (.a (.v 0) (.c 1)) (.c 4))) [] rfl))⟩
    exact wkF [.c 2 (hq),.b 2 (show cmpD Cm.lt (PyData.int ((p.fdiv (3:Int)).fmod (13:Int))) (PyData.int (3:Int))=some false by simp only [c_lt,q3',decide_false]),.b 1 (show cmpD Cm.lt (PyData.int ((p.fdiv (3:Int)).fmod (13:Int))) (PyData.int (6:Int))=some false by simp only [c_lt,q6',decide_false]),.b 1 (show cmpD Cm.lt (PyData.int ((p.fdiv (3:Int)).fmod (13:Int))) (PyData.int (9:Int))=some false by simp only [c_lt,q9',decide_false]),.b 1 (show cmpD Cm.lt (PyData.int ((p.fdiv (3:Int)).fmod (13:Int))) (PyData.int (12:Int))=some false by simp only [c_lt,q12',decide_false]),.d 2 (hx)] rfl (by kernel_rfl)
end Lq
end
section
namespace Lq
open PySem Mv
theorem nd_get {l:List Str} (nd:l.Nodup) {i j:Nat} (hi:i<l.length) (hj:j<l.length) (h:i≠j) :l.getD i ⟨#[]⟩≠l.getD j ⟨#[]⟩:=by
  rw [List.getD_eq_getElem?_getD,List.getD_eq_getElem?_getD,List.getElem?_eq_getElem hi,List.getElem?_eq_getElem hj]
  have q:=List.pairwise_iff_getElem.mp nd
  show l[i]≠l[j]
  rcases Nat.lt_or_gt_of_ne h with hlt | hlt
  · exact q _ _ hi hj hlt
  · exact fun e=>q _ _ hj hi hlt e.symm
theorem get_mem {l:List Str} {i:Nat} (hi:i<l.length) :l.getD i ⟨#[]⟩∈l:=by
  rw [List.getD_eq_getElem?_getD,List.getElem?_eq_getElem hi]
  exact List.getElem_mem hi
theorem idx_get {l:List Str} {i:Nat} (hi:i<l.length) :idxOf (l.map PyData.str) (i:Int)=some (.str (l.getD i ⟨#[]⟩)):=by
  unfold idxOf
  rw [if_pos (Int.natCast_nonneg _),Int.toNat_natCast,List.getElem?_map,List.getD_eq_getElem?_getD,List.getElem?_eq_getElem hi]
  rfl
structure Hok1 (l:List Str) (h:Hd) :Prop where
  wn:h.wn.length=h.ps.length
  le:h.ps.length≤6
  nd:h.ps.Nodup
  mem:∀x∈h.ps,x∈l
noncomputable abbrev psB:Ex:=.idx (.var 1) (.op2 .mod (.op2 .add (.op2 .add (.lit (.int 2)) (.var 3)) (.var 9)) (.lit (.int 12)))
noncomputable abbrev psOf (l:List Str) (k:Nat) (js:List Nat) :List Str:=js.map fun j=>l.getD ((2+k+j) % 12) ⟨#[]⟩
theorem ps_loop (n:Nat) (l:List Str) (hl:l.length=12) (k:Nat) (a0 a2 a4 a5 a6 a7 a8:Slot) :∀(js:List Nat) (s9:Slot),compB ⟨P.glob,cF P n,[],false⟩ [a0,sN l,a2,.fz (.int (0+k)),a4,a5,a6,a7,a8,s9] psB (.one 9) [] (js.map fun (j:Nat)=>.int (0+j))=some (.ok ((psOf l k js).map .str),[a0,sN l,a2,.fz (.int (0+k)),a4,a5,a6,a7,a8,.no])
  | []=>@fun s9=>by rw [List.map_nil,compB_nil]; rfl
  | j::js=>@fun s9=>by
    have ih:=ps_loop n l hl k a0 a2 a4 a5 a6 a7 a8 js (.fz (.int (0+j)))
    have hx:idxOf (l.map PyData.str) ((2+(0+(k:Int))+(0+(j:Int))).fmod 12)=some (.str (l.getD ((2+k+j) % 12) ⟨#[]⟩)):=by
      have e:(2+(0+(k:Int))+(0+(j:Int))).fmod 12=(((2+k+j) % 12:Nat) :Int):=by
        rw [Int.fmod_eq_emod_of_nonneg _ (by decide),Int.zero_add,Int.zero_add,Int.natCast_emod,Int.natCast_add,Int.natCast_add]; rfl
      rw [e]
      exact idx_get (by rw [hl]; exact Nat.mod_lt _ (by decide))
    rw [List.map_cons]
    exact wkC [.d 3 (hx),.cp 0 (ih)] rfl (by kernel_rfl)
noncomputable abbrev wnB:List St:=[.asg (.one 8) (.cmp .eq (.op2 .mod (.op2 .fdiv (.var 4) (.idx (.list [(.lit (.int 7)),(.lit (.int 14)),(.lit (.int 28)),(.lit (.int 56)),(.lit (.int 112)),(.lit (.int 224))]) (.var 7))) (.lit (.int 2))) (.lit (.int 1))),
        .app (.var 6) (.and [(.var 8),(.cmp .lt (.bi .count [(.pl (.var 6)),(.lit (.bool true))]) (.lit (.int 2)))])]
theorem bools_map:∀l:List Bool,boolsOf (l.map .bool)=some l
  | []=>rfl
  | b::l=>by
    show (boolsOf (l.map .bool)).map _=_
    rw [bools_map l]; rfl
theorem wn_loop (n:Nat) (c:Int) (a0 a1 a2 a3 a5 a9:Slot) :∀(js:List Nat) (acc:List Bool) (s7 s8:Slot),(∀j∈js,j<6)→acc.length+js.length≤1000→Ex12 (fun bs=>forB ⟨P.glob,cF P n,[],false⟩ [a0,a1,a2,a3,.fz (.int c),a5,.own (.list (acc.map .bool)),s7,s8,a9] (.one 7) wnB [7,8] (js.map fun (j:Nat)=>.int (0+j))=some (.ok .next,[a0,a1,a2,a3,.fz (.int c),a5,.own (.list ((acc++bs).map .bool)),.no,.no,a9])) (fun bs=>bs.length=js.length)
  | []=>@fun acc s7 s8 J U=>⟨[],by rw [List.map_nil,forB_nil,List.append_nil]; rfl,rfl⟩
  | j::js=>@fun acc s7 s8 hj hl=>by
    have j6:=hj j List.mem_cons_self
    obtain ⟨y,hy,my⟩:=idx_mem (xs:=[PyData.int 7,.int 14,.int 28,.int 56,.int 112,.int 224]) (r:=0+(j:Int)) (by exact (lin [j] [] 1 (.le (.c 0) (.a (.c 0) (.n (.v 0)))) [] rfl)) (by show _<(6:Int); exact (lin [j] [] 1 (.le (.a (.a (.c 0) (.n (.v 0))) (.c 1)) (.c 6)) [(1,.nle (.a (.v 0) (.c 1)) (.c 6))] rfl j6))
    have:∃z:Int,y = .int z∧(z≠0∧z.natAbs<2 ^ 64):=by
      simp only [List.mem_cons,List.not_mem_nil,or_false] at my
      rcases my with rfl | rfl | rfl | rfl | rfl | rfl <;> exact ⟨_,rfl,by decide,by decide⟩
    obtain ⟨z,rfl,hz⟩:=this
    have hsz:(acc.map PyData.bool).length<Sz:=by rw [List.length_map]; simp only [List.length_cons] at hl; show acc.length<16777216; exact (lin [acc.length,js.length] [] 1 (.nle (.a (.v 0) (.c 1)) (.c 16777216)) [(1,.nle (.a (.v 0) (.a (.v 1) (.c 1))) (.c 1000))] rfl hl)
    have hbo:=bools_map acc
    have hl':∀b:Bool,(acc++[b]).length+js.length≤1000:=fun b=>by simp only [List.length_append,List.length_cons,List.length_nil] at *; exact (lin [acc.length,js.length] [] 1 (.nle (.a (.a (.v 0) (.a (.c 0) (.c 1))) (.v 1)) (.c 1000)) [(1,.nle (.a (.v 0) (.a (.v 1) (.c 1))) (.c 1000))] rfl hl)
    by_cases qb:(c.fdiv z).fmod 2=1
    · obtain ⟨bs,ih,hb⟩:=wn_loop n c a0 a1 a2 a3 a5 a9 js (acc++[decide (((acc.count true:Nat) :Int)<2)]) (.fz (.int (0+j))) (.fz (.bool true)) (fun i hi=>hj i (List.mem_cons_of_mem _ hi)) (hl' _)
      refine ⟨decide (((acc.count true:Nat) :Int)<2)::bs,?_,by rw [List.length_cons,List.length_cons,hb]⟩
      rw [List.map_append,List.append_assoc] at ih
      exact wkL [.d 0 (hy),.v 0 (show op2 Op2.fdiv (PyData.int c) (PyData.int z)=some (Rv.fz (PyData.int (c.fdiv z))) by simp only [o_fdiv,ne_eq,hz,not_false_eq_true,Nat.reducePow,and_self,if_true]),.b 1 (show cmpD Cm.eq (PyData.int ((c.fdiv z).fmod (2:Int))) (PyData.int (1:Int))=some true by simp only [qb,c_eqI,decide_true]),.v 1 (show biD Bi.count [PyData.list (List.map PyData.bool acc),PyData.bool true]=some (Rv.fz (PyData.int (↑(List.count true acc) :Int))) by simp only [b_count,hbo,Option.map_some]),.b 0 (show cmpD Cm.lt (PyData.int (↑(List.count true acc) :Int)) (PyData.int (2:Int))=some (decide ((↑(List.count true acc) :Int)<(2:Int))) by simp only [c_lt]),.t 0 (show decide ((List.map PyData.bool acc).length<Sz)=true by simp only [hsz,decide_true]),.lp 0 (ih)] rfl (by kernel_rfl)
    · obtain ⟨bs,ih,hb⟩:=wn_loop n c a0 a1 a2 a3 a5 a9 js (acc++[false]) (.fz (.int (0+j))) (.fz (.bool false)) (fun i hi=>hj i (List.mem_cons_of_mem _ hi)) (hl' _)
      refine ⟨false::bs,?_,by rw [List.length_cons,List.length_cons,hb]⟩
      rw [List.map_append,List.append_assoc] at ih
      exact wkL [.d 0 (hy),.v 0 (show op2 Op2.fdiv (PyData.int c) (PyData.int z)=some (Rv.fz (PyData.int (c.fdiv z))) by simp only [o_fdiv,ne_eq,hz,not_false_eq_true,Nat.reducePow,and_self,if_true]),.b 1 (show cmpD Cm.eq (PyData.int ((c.fdiv z).fmod (2:Int))) (PyData.int (1:Int))=some false by simp only [c_eqI,qb,decide_false]),.t 1 (show decide ((List.map PyData.bool acc).length<Sz)=true by simp only [hsz,decide_true]),.lp 0 (ih)] rfl (by kernel_rfl)
noncomputable abbrev headB:List St:=[.asg (.one 4) (.call 15 [(.var 0),(.op2 .add (.lit (.int 2)) (.var 3))]),
      .asg (.one 5) (.idx (.list [(.lit (.int 1)),(.lit (.int 2)),(.lit (.int 3)),(.lit (.int 2)),(.lit (.int 0)),(.lit (.int 6)),(.lit (.int 3))]) (.op2 .mod (.var 4) (.lit (.int 7)))),
      .asg (.one 6) (.list []),
      .for_ (.one 7) .range [(.var 5)] wnB [7,8],
      .app (.var 2) (.tup [(.idx (.var 1) (.var 3)),(.bi .tuple [(.comp psB (.one 9) .range [(.var 5)] [])]),(.bi .tuple [(.pl (.var 6))])])]
theorem head_loop (n:Nat) (xs:List Int) (l:List Str) (hn:NamesOk l) :∀(ks:List Nat) (acc:List Hd) (s1 s3 s4 s5 s6 s7 s8 s9:Slot),(s1 = .own (.list (l.map .str))∨s1=sN l)→(∀k∈ks,k<12)→acc.length+ks.length≤1000→Ex23 (fun hs s1'=>forB ⟨P.glob,cF P (n+1),[],false⟩ [.fz (.list (xs.map .int)),s1,.own (.list (acc.map encH)),s3,s4,s5,s6,s7,s8,.no] (.one 3) headB [3,4,5,6,7,8] (ks.map fun (k:Nat)=>.int (0+k))=some (.ok .next,[.fz (.list (xs.map .int)),s1',.own (.list ((acc++hs).map encH)),.no,.no,.no,.no,.no,.no,.no])) (fun hs s1'=>hs.map (·.nm)=(ks.map fun k=>l.getD k ⟨#[]⟩)) (fun hs s1'=> ∀h∈hs,Hok1 l h)
  | []=>@fun acc s1 s3 s4 s5 s6 s7 s8 s9 h1 J U=>⟨[],s1,by rw [List.map_nil,forB_nil,List.append_nil]; rfl,rfl,fun t h=>by cases h⟩
  | k::ks=>@fun acc s1 s3 s4 s5 s6 s7 s8 s9 h1 hk hl=>by
    have k12:=hk k List.mem_cons_self
    obtain ⟨c,hc⟩:=cell n xs (2+(0+(k:Int))) (by exact (lin [k] [] 1 (.le (.c 0) (.a (.c 2) (.a (.c 0) (.n (.v 0))))) [] rfl))
    have h7:=fm c 7 (by decide)
    obtain ⟨y,hy,my⟩:=idx_mem (xs:=([1,2,3,2,0,6,3] :List Nat).map fun (k:Nat)=>PyData.int k) (r:=c.fmod 7) h7.1 h7.2
    obtain ⟨m,mm,rfl⟩:=List.mem_map.mp my
    have hy:idxOf [PyData.int 1,.int 2,.int 3,.int 2,.int 0,.int 6,.int 3] (c.fmod 7)=some (.int m):=hy
    have m6:m≤6:=by simp only [List.mem_cons,List.not_mem_nil,or_false] at mm; omega
    have hr:=range_ok m (by exact (lin [m] [] 1 (.nle (.v 0) (.c 1000)) [(1,.nle (.v 0) (.c 6))] rfl m6))
    have hx:idxOf (l.map PyData.str) (0+(k:Int))=some (.str (l.getD k ⟨#[]⟩)):=by rw [Int.zero_add]; exact idx_get (by rw [hn.len]; exact k12)
    have hsz:(acc.map encH).length<Sz:=by rw [List.length_map]; simp only [List.length_cons] at hl; show acc.length<16777216; exact (lin [acc.length,ks.length] [] 1 (.nle (.a (.v 0) (.c 1)) (.c 16777216)) [(1,.nle (.a (.v 0) (.a (.v 1) (.c 1))) (.c 1000))] rfl hl)
    have wl:∀a1 a2 a9, ∃bs:List Bool,forB ⟨P.glob,cF P (n+1),[],false⟩ [.fz (.list (xs.map .int)),a1,a2,.fz (.int (0+k)),.fz (.int c),.fz (.int m),.own (.list []),.no,.no,a9] (.one 7) wnB [7,8] ((List.range m).map fun (j:Nat)=>.int (0+j))=some (.ok .next,[.fz (.list (xs.map .int)),a1,a2,.fz (.int (0+k)),.fz (.int c),.fz (.int m),.own (.list (bs.map .bool)),.no,.no,a9])∧bs.length=(List.range m).length:=fun a1 a2 a9=>let ⟨bs,q1,q2⟩:=wn_loop (n+1) c (.fz (.list (xs.map .int))) a1 a2 (.fz (.int (0+k))) (.fz (.int m)) a9 (List.range m) [] .no .no (fun j hj=>by have:=List.mem_range.mp hj; exact (lin [j,m] [] 1 (.nle (.a (.v 0) (.c 1)) (.c 6)) [(1,.nle (.v 1) (.c 6)),(1,.nle (.a (.v 0) (.c 1)) (.v 1))] rfl m6 this)) (by rw [List.length_range]; show 0+m≤1000; exact (lin [m] [] 1 (.nle (.a (.c 0) (.v 0)) (.c 1000)) [(1,.nle (.v 0) (.c 6))] rfl m6)); ⟨bs,q1,q2⟩
    obtain ⟨bs,wl,wb⟩:=wl s1 (.own (.list (acc.map encH))) .no
    have pl:=ps_loop (n+1) l hn.len k (.fz (.list (xs.map .int))) (.own (.list (acc.map encH))) (.fz (.int c)) (.fz (.int m)) (.own (.list (bs.map .bool))) .no .no (List.range m) .no
    have hok:Hok1 l ⟨l.getD k ⟨#[]⟩,psOf l k (List.range m),bs⟩:=by
      refine ⟨by rw [wb,List.length_map],by rw [List.length_map,List.length_range]; exact m6,?_,fun x hx=>?_⟩
      · refine List.pairwise_map.mpr (List.Pairwise.imp_of_mem ?_ List.pairwise_lt_range)
        intro a b ha hb hab
        have ha:=List.mem_range.mp ha
        have hb:=List.mem_range.mp hb
        exact nd_get hn.nd (by rw [hn.len]; exact Nat.mod_lt _ (by decide)) (by rw [hn.len]; exact Nat.mod_lt _ (by decide)) (by omega)
      · obtain ⟨j,_,rfl⟩:=List.mem_map.mp hx
        exact get_mem (by rw [hn.len]; exact Nat.mod_lt _ (by decide))
    obtain ⟨hs,s1',ih,hm,hf⟩:=head_loop n xs l hn ks (acc++[⟨l.getD k ⟨#[]⟩,psOf l k (List.range m),bs⟩]) (sN l) (.fz (.int (0+k))) (.fz (.int c)) (.fz (.int m)) (.own (.list (bs.map .bool))) .no .no .no (.inr rfl) (fun j hj=>hk j (List.mem_cons_of_mem _ hj)) (by simp only [List.length_append,List.length_cons,List.length_nil] at *; exact (lin [acc.length,ks.length] [] 1 (.nle (.a (.a (.v 0) (.a (.c 0) (.c 1))) (.v 1)) (.c 1000)) [(1,.nle (.a (.v 0) (.a (.v 1) (.c 1))) (.c 1000))] rfl hl))
    refine ⟨⟨l.getD k ⟨#[]⟩,psOf l k (List.range m),bs⟩::hs,s1',?_,by rw [List.map_cons,List.map_cons,hm],fun h hh=>?_⟩
    · rw [List.map_append,List.append_assoc] at ih
      rw [List.map_cons]
      rcases h1 with rfl | rfl
      · exact wkL [.c 1 (hc),.d 1 (hy),.l 0 (show iterD Itk.range [PyData.int (↑m:Int)]=some (List.map (fun (k:Nat)=>PyData.int ((0:Int)+(↑k:Int))) (List.range m)) by simp only [it_range,Int.reduceNeg,hr]),.lp 0 (wl),.d 0 (hx),.l 0 (show iterD Itk.range [PyData.int (↑m:Int)]=some (List.map (fun (k:Nat)=>PyData.int ((0:Int)+(↑k:Int))) (List.range m)) by simp only [it_range,Int.reduceNeg,hr]),.cp 0 (pl),.t 2 (show decide ((List.map encH acc).length<Sz)=true by simp only [hsz,decide_true]),.lp 0 (ih)] rfl (by kernel_rfl)
      · exact wkL [.c 1 (hc),.d 1 (hy),.l 0 (show iterD Itk.range [PyData.int (↑m:Int)]=some (List.map (fun (k:Nat)=>PyData.int ((0:Int)+(↑k:Int))) (List.range m)) by simp only [it_range,Int.reduceNeg,hr]),.lp 0 (wl),.d 0 (hx),.l 0 (show iterD Itk.range [PyData.int (↑m:Int)]=some (List.map (fun (k:Nat)=>PyData.int ((0:Int)+(↑k:Int))) (List.range m)) by simp only [it_range,Int.reduceNeg,hr]),.cp 0 (pl),.t 2 (show decide ((List.map encH acc).length<Sz)=true by simp only [hsz,decide_true]),.lp 0 (ih)] rfl (by kernel_rfl)
    · rcases List.mem_cons.mp hh with rfl | hh
      · exact hok
      · exact hf h hh
structure HdsOk (l:List Str) (hs:List Hd) :Prop where
  nm:NamesOk l
  pos:1≤hs.length
  le:hs.length≤4
  nms:hs.map (·.nm)=(List.range hs.length).map fun k=>l.getD k ⟨#[]⟩
  ok:∀h∈hs,Hok1 l h
theorem heads_eq (n:Nat) (xs:List Int) :∃l hs r,cF P (n+2) false 25 [.fz (.list (xs.map .int))]=some (.ok r,[])∧HdsOk l hs∧(r = .own (.list (hs.map encH))∨r = .fz (.list (hs.map encH))):=by
  obtain ⟨c0,hc0⟩:=cell n xs 0 (by decide)
  obtain ⟨c1,hc1⟩:=cell n xs 1 (by decide)
  obtain ⟨l,r,hr,hn,ho⟩:=names_eq n c0
  have h4:=fm c1 4 (by decide)
  have e4:1+c1.fmod 4=(((1+c1.fmod 4).toNat:Nat) :Int):=by exact (Int.le_antisymm (lin [((1:Int)+c1.fmod (4:Int)).toNat] [c1.fmod (4:Int)] 1 (.le (.a (.c 1) (.v 0)) (.n (.v 0))) [(-1,.eq (.n (.v 0)) (.a (.c 1) (.v 0)))] rfl (Int.toNat_of_nonneg (a:=(1:Int)+c1.fmod (4:Int)) (lin [] [c1.fmod (4:Int)] 1 (.le (.c 0) (.a (.c 1) (.v 0))) [(1,.le (.c 0) (.v 0))] rfl (h4).1))) (lin [((1:Int)+c1.fmod (4:Int)).toNat] [c1.fmod (4:Int)] 1 (.le (.n (.v 0)) (.a (.c 1) (.v 0))) [(1,.eq (.n (.v 0)) (.a (.c 1) (.v 0)))] rfl (Int.toNat_of_nonneg (a:=(1:Int)+c1.fmod (4:Int)) (lin [] [c1.fmod (4:Int)] 1 (.le (.c 0) (.a (.c 1) (.v 0))) [(1,.le (.c 0) (.v 0))] rfl (h4).1))))
  generalize hk:(1+c1.fmod 4).toNat=k at e4
  have k4:1≤k∧k≤4:=by exact ⟨(lin [k] [c1.fmod (4:Int)] 1 (.nle (.c 1) (.v 0)) [(1,.le (.c 0) (.v 0)),(1,.eq (.a (.c 1) (.v 0)) (.n (.v 0)))] rfl (h4).1 e4),(lin [k] [c1.fmod (4:Int)] 1 (.nle (.v 0) (.c 4)) [(1,.le (.a (.v 0) (.c 1)) (.c 4)),(-1,.eq (.a (.c 1) (.v 0)) (.n (.v 0)))] rfl (h4).2 e4)⟩
  have hg:=range_ok k (by exact (lin [k] [] 1 (.nle (.v 0) (.c 1000)) [(1,.nle (.v 0) (.c 4))] rfl (k4).2))
  have fin:∀s1,(s1 = .own (.list (l.map .str))∨s1=sN l)→ ∃(hs:List Hd) (s1':Slot),forB ⟨P.glob,cF P (n+1),[],false⟩ [.fz (.list (xs.map .int)),s1,.own (.list []),.no,.no,.no,.no,.no,.no,.no] (.one 3) headB [3,4,5,6,7,8] ((List.range k).map fun (k:Nat)=>.int (0+k))=some (.ok .next,[.fz (.list (xs.map .int)),s1',.own (.list (hs.map encH)),.no,.no,.no,.no,.no,.no,.no])∧HdsOk l hs:=fun s1 h1=>by
    obtain ⟨hs,s1',ih,hm,hf⟩:=head_loop n xs l hn (List.range k) [] s1 .no .no .no .no .no .no .no h1 (fun j hj=>by have:=List.mem_range.mp hj; exact (lin [j,k] [] 1 (.nle (.a (.v 0) (.c 1)) (.c 12)) [(1,.nle (.v 1) (.c 4)),(1,.nle (.a (.v 0) (.c 1)) (.v 1))] rfl (k4).2 this)) (by rw [List.length_range]; show 0+k≤1000; exact (lin [k] [] 1 (.nle (.a (.c 0) (.v 0)) (.c 1000)) [(1,.nle (.v 0) (.c 4))] rfl (k4).2))
    have hl:hs.length=k:=by have:=congrArg List.length hm; rw [List.length_map,List.length_map,List.length_range] at this; exact this
    exact ⟨hs,s1',ih,hn,by exact (lin [hs.length,k] [] 1 (.nle (.c 1) (.v 0)) [(1,.nle (.c 1) (.v 1)),(-1,.neq (.v 0) (.v 1))] rfl (k4).1 hl),by exact (lin [hs.length,k] [] 1 (.nle (.v 0) (.c 4)) [(1,.nle (.v 1) (.c 4)),(1,.neq (.v 0) (.v 1))] rfl (k4).2 hl),by rw [hl]; exact hm,hf⟩
  rcases ho with rfl | rfl
  · obtain ⟨hs,s1',ih,ok⟩:=fin (.own (.list (l.map .str))) (.inl rfl)
    refine ⟨l,hs,.fz (.list (hs.map encH)),?_,ok,.inr rfl⟩
    exact wkF [.c 0 (hc0),.c 0 (hr),.c 0 (hc1),.l 2 (show iterD Itk.range [PyData.int ((1:Int)+c1.fmod (4:Int))]=some (List.map (fun (k:Nat)=>PyData.int ((0:Int)+(↑k:Int))) (List.range k)) by simp only [e4,it_range,Int.reduceNeg,hg]),.lp 0 (ih)] rfl (by kernel_rfl)
  · obtain ⟨hs,s1',ih,ok⟩:=fin (sN l) (.inr rfl)
    refine ⟨l,hs,.fz (.list (hs.map encH)),?_,ok,.inr rfl⟩
    exact wkF [.c 0 (hc0),.c 0 (hr),.c 0 (hc1),.l 2 (show iterD Itk.range [PyData.int ((1:Int)+c1.fmod (4:Int))]=some (List.map (fun (k:Nat)=>PyData.int ((0:Int)+(↑k:Int))) (List.range k)) by simp only [e4,it_range,Int.reduceNeg,hg]),.lp 0 (ih)] rfl (by kernel_rfl)
end Lq
end
section
namespace Lq
open PySem Mv
noncomputable abbrev csOf (hs:List Hd) :List (Str×Nat):=hs.map fun h=>(h.nm,h.ps.length)
theorem HdsOk.nd {l:List Str} {hs:List Hd} (h:HdsOk l hs) :(hs.map (·.nm)).Nodup:=by
  rw [h.nms]
  refine List.pairwise_map.mpr (List.Pairwise.imp_of_mem ?_ List.pairwise_lt_range)
  intro a b ha hb hab
  have ha:=List.mem_range.mp ha
  have hb:=List.mem_range.mp hb
  have:=h.le
  exact nd_get h.nm.nd (by rw [h.nm.len]; exact (lin [a,hs.length] [] 1 (.nle (.a (.v 0) (.c 1)) (.c 12)) [(1,.nle (.a (.v 0) (.c 1)) (.v 1)),(1,.nle (.v 1) (.c 4))] rfl ha this)) (by rw [h.nm.len]; exact (lin [b,hs.length] [] 1 (.nle (.a (.v 0) (.c 1)) (.c 12)) [(1,.nle (.a (.v 0) (.c 1)) (.v 1)),(1,.nle (.v 1) (.c 4))] rfl hb this)) (by exact (fun mvo12=>(linF [a,b] [] [(1,.nle (.a (.v 0) (.c 1)) (.v 1)),(-1,.neq (.v 0) (.v 1))] rfl hab mvo12)))
theorem HdsOk.mem {l:List Str} {hs:List Hd} (h:HdsOk l hs) :∀x∈hs.map (·.nm),x∈l:=by
  rw [h.nms]
  intro x hx
  obtain ⟨k,hk,rfl⟩:=List.mem_map.mp hx
  have:=List.mem_range.mp hk
  have:=h.le
  exact get_mem (by rw [h.nm.len]; exact (lin [k,hs.length] [] 1 (.nle (.a (.v 0) (.c 1)) (.c 12)) [(1,.nle (.a (.v 0) (.c 1)) (.v 1)),(1,.nle (.v 1) (.c 4))] rfl ‹k<hs.length› this))
theorem cnt_mem:∀ {hs:List Hd},(hs.map (·.nm)).Nodup→ ∀h∈hs,cnt (csOf hs) h.nm=some h.ps.length
  | []=>@fun J h m=>by cases m
  | g::hs=>@fun nd h m=>by
    rw [List.map_cons,List.nodup_cons] at nd
    unfold cnt csOf
    rw [List.map_cons,List.find?_cons]
    by_cases q:g.nm=h.nm
    · rw [decide_eq_true q]
      rcases List.mem_cons.mp m with rfl | m
      · rfl
      · exact absurd (List.mem_map.mpr ⟨h,m,q.symm⟩) nd.1
    · rw [decide_eq_false q]
      rcases List.mem_cons.mp m with rfl | m
      · exact absurd rfl q
      · exact cnt_mem nd.2 h m
theorem HdsOk.hok {l:List Str} {hs:List Hd} (h:HdsOk l hs) :HOk (csOf hs) hs:=⟨fun e=>(by have:=h.pos; rw [e] at this; cases this),fun g hg=>(h.ok g hg).wn,fun g hg=>(h.ok g hg).le,fun g hg=>cnt_mem h.nd g hg⟩
noncomputable abbrev hd0:Hd:=⟨⟨#[]⟩,[],[]⟩
theorem hidx {hs:List Hd} {k:Nat} (hk:k<hs.length) :idxOf (hs.map encH) (0+(k:Int))=some (encH (hs.getD k hd0))∧hs.getD k hd0∈hs:=by
  unfold idxOf
  rw [Int.zero_add,if_pos (Int.natCast_nonneg _),Int.toNat_natCast,List.getElem?_map,List.getD_eq_getElem?_getD,List.getElem?_eq_getElem hk]
  exact ⟨rfl,List.getElem_mem hk⟩
theorem kn_loop (n:Nat) (ps:List Str) (wn:List Bool) (hw:wn.length=ps.length) (a0 a1 a2 a3 a4 a7 a8 a9 a10 a11:Slot) :∀(js:List Nat) (s12:Slot),(∀j∈js,j<ps.length)→ ∃kn:List Str,compB ⟨P.glob,cF P n,[],false⟩ [a0,a1,a2,a3,a4,.fz (.tuple (ps.map .str)),.fz (.tuple (wn.map .bool)),a7,a8,a9,a10,a11,s12] (.idx (.var 5) (.var 12)) (.one 12) [(.idx (.var 6) (.var 12))] (js.map fun (j:Nat)=>.int (0+j))=some (.ok (kn.map .str),[a0,a1,a2,a3,a4,.fz (.tuple (ps.map .str)),.fz (.tuple (wn.map .bool)),a7,a8,a9,a10,a11,.no])∧ ∀x∈kn,x∈ps
  | []=>@fun s12 J=>⟨[],by rw [List.map_nil,compB_nil]; rfl,fun x h=>by cases h⟩
  | j::js=>@fun s12 hj=>by
    have j1:=hj j List.mem_cons_self
    obtain ⟨b,hb⟩:=wn_get wn j (by exact (lin [j,wn.length,ps.length] [] 1 (.nle (.a (.v 0) (.c 1)) (.v 1)) [(-1,.neq (.v 1) (.v 2)),(1,.nle (.a (.v 0) (.c 1)) (.v 2))] rfl hw j1))
    have hx:idxOf (ps.map PyData.str) (0+(j:Int))=some (.str (ps.getD j ⟨#[]⟩)):=by rw [Int.zero_add]; exact idx_get j1
    obtain ⟨kn,ih,hm⟩:=kn_loop n ps wn hw a0 a1 a2 a3 a4 a7 a8 a9 a10 a11 js (.fz (.int (0+j))) fun i hi=>hj i (List.mem_cons_of_mem _ hi)
    cases b with
    | true=>
      refine ⟨ps.getD j ⟨#[]⟩::kn,?_,fun x hx=>?_⟩
      · rw [List.map_cons]
        exact wkC [.d 0 (hb),.d 1 (hx),.cp 0 (ih)] rfl (by kernel_rfl)
      · rcases List.mem_cons.mp hx with rfl | hx
        · exact get_mem j1
        · exact hm x hx
    | false=>
      refine ⟨kn,?_,hm⟩
      rw [List.map_cons]
      exact wkC [.d 0 (hb),.cp 1 (ih)] rfl (by kernel_rfl)
noncomputable abbrev progB:List St:=[.asg (.tup [4,5,6]) (.idx (.var 1) (.var 3)),
      .asg (.one 7) (.comp (.idx (.var 5) (.var 12)) (.one 12) .range [(.bi .len [(.var 5)])] [(.idx (.var 6) (.var 12))]),
      .asg (.one 8) (.call 16 [(.op2 .add (.op2 .mul (.call 15 [(.var 0),(.op2 .add (.lit (.int 6)) (.var 3))]) (.lit (.int 977))) (.var 3))]),
      .asg (.one 9) (.call 24 [(.var 8),(.op2 .add (.lit (.int 1)) (.op2 .mod (.op2 .fdiv (.call 15 [(.var 0),(.lit (.int 10))]) (.op2 .add (.var 3) (.lit (.int 1)))) (.lit (.int 3)))),(.bi .list [(.var 5)]),(.var 7),(.var 1)]),
      .iff (.and [(.cmp .gt (.op2 .mod (.op2 .fdiv (.call 15 [(.var 0),(.lit (.int 11))]) (.op2 .add (.var 3) (.lit (.int 1)))) (.lit (.int 3))) (.lit (.int 0))),(.cmp .gt (.bi .len [(.var 5)]) (.lit (.int 0)))]) [.asg (.one 10) (.call 16 [(.op2 .add (.var 8) (.lit (.int 31)))]),
        .asg (.one 11) (.tup [(.lit (S [110,97,109,101])),(.idx (.var 5) (.op2 .mod (.var 10) (.bi .len [(.var 5)])))]),
        .iff (.cmp .eq (.op2 .mod (.op2 .fdiv (.var 10) (.lit (.int 8))) (.lit (.int 2))) (.lit (.int 1))) [.asg (.one 11) (.tup [(.lit (S [100,111])),(.lit (S [101,109,112,116,121])),(.tup [(.var 11)])])] [],
        .asg (.one 9) (.tup [(.lit (S [105,102])),(.var 11),(.var 9),(.call 24 [(.var 10),(.lit (.int 2)),(.bi .list [(.var 5)]),(.var 7),(.var 1)])])] [],
      .app (.var 2) (.tup [(.var 4),(.var 5),(.var 9)])]
inductive StepTo (n:Nat) (xs:List Int) (hs:List Hd) (h:Hd) (k:Nat) (acc:List Fun) (s3 s4 s5 s6 s7 s8 s9 s10 s11:Slot) (rest:List D) :Prop
  | mk (t:T) (s4' s5' s6' s7' s8' s9' s10' s11':Slot) :Fit h.ps (csOf hs) 8 t→(∀R,forB ⟨P.glob,cF P (n+20),[],false⟩ [.fz (.list (xs.map .int)),sH hs,.own (.list ((acc++[(h.nm,h.ps,t)]).map encF)),.fz (.int (0+k)),s4',s5',s6',s7',s8',s9',s10',s11',.no] (.one 3) progB [3,4,5,6,7,8,9,10,11] rest=some R→forB ⟨P.glob,cF P (n+20),[],false⟩ [.fz (.list (xs.map .int)),sH hs,.own (.list (acc.map encF)),s3,s4,s5,s6,s7,s8,s9,s10,s11,.no] (.one 3) progB [3,4,5,6,7,8,9,10,11] (.int (0+k)::rest)=some R)→StepTo n xs hs h k acc s3 s4 s5 s6 s7 s8 s9 s10 s11 rest
theorem prog_step (n:Nat) (xs:List Int) {l:List Str} {hs:List Hd} (hh:HdsOk l hs) (k:Nat) (hk:k<hs.length) (acc:List Fun) (hl:acc.length≤1000) (s3 s4 s5 s6 s7 s8 s9 s10 s11:Slot) (rest:List D) :StepTo n xs hs (hs.getD k hd0) k acc s3 s4 s5 s6 s7 s8 s9 s10 s11 rest:=by
  obtain ⟨hx,hm⟩:=hidx hk
  generalize hs.getD k hd0=h at *
  obtain ⟨c6,hc6⟩:=cell (n+19) xs (6+(0+(k:Int))) (by exact (lin [k] [] 1 (.le (.c 0) (.a (.c 6) (.a (.c 0) (.n (.v 0))))) [] rfl))
  obtain ⟨c10,hc10⟩:=cell (n+19) xs 10 (by decide)
  obtain ⟨c11,hc11⟩:=cell (n+19) xs 11 (by decide)
  have hmu:=mulI_r (a:=c6) (b:=977) (by decide)
  obtain ⟨q,hq⟩:=next_eq (n+19) (c6*977+(0+(k:Int)))
  obtain ⟨q2,hq2⟩:=next_eq (n+19) (q+31)
  have ho:=hh.ok h hm
  have hr:=range_ok h.ps.length (by have:=ho.le; exact (lin [h.ps.length] [] 1 (.nle (.v 0) (.c 1000)) [(1,.nle (.v 0) (.c 6))] rfl this))
  have lp:(((h.ps.map PyData.str).length:Nat) :Int)=(h.ps.length:Int):=by rw [List.length_map]
  obtain ⟨kn,hkn,hks⟩:=kn_loop (n+20) h.ps h.wn ho.wn (.fz (.list (xs.map .int))) (sH hs) (.own (.list (acc.map encF))) (.fz (.int (0+k))) (.fz (.str h.nm)) .no .no .no .no .no (List.range h.ps.length) .no fun j hj=>List.mem_range.mp hj
  have k4:k<4:=by have:=hh.le; exact (lin [k,hs.length] [] 1 (.nle (.a (.v 0) (.c 1)) (.c 4)) [(1,.nle (.a (.v 0) (.c 1)) (.v 1)),(1,.nle (.v 1) (.c 4))] rfl hk this)
  have dz:((0+(k:Int)+1≠0)∧(0+(k:Int)+1).natAbs<2 ^ 64):=⟨by exact (fun mvo41=>(linF [k] [] [(1,.eq (.a (.a (.c 0) (.n (.v 0))) (.c 1)) (.c 0))] rfl mvo41)),by exact (lin [((0:Int)+(↑k:Int)+(1:Int)).natAbs,k] [] 1 (.nle (.a (.v 0) (.c 1)) (.c 18446744073709551616)) [(1,.nle (.a (.v 1) (.c 1)) (.c 4)),(1,.eq (.n (.v 0)) (.a (.a (.c 0) (.n (.v 1))) (.c 1)))] rfl k4 (Int.natAbs_of_nonneg (a:=(0:Int)+(↑k:Int)+(1:Int)) (lin [k] [] 1 (.le (.c 0) (.a (.a (.c 0) (.n (.v 0))) (.c 1))) [] rfl)))⟩
  have h3:=fm (c10.fdiv (0+(k:Int)+1)) 3 (by decide)
  have e3:1+(c10.fdiv (0+(k:Int)+1)).fmod 3=(((1+(c10.fdiv (0+(k:Int)+1)).fmod 3).toNat:Nat) :Int):=by exact (Int.le_antisymm (lin [((1:Int)+(c10.fdiv ((0:Int)+(↑k:Int)+(1:Int))).fmod (3:Int)).toNat] [(c10.fdiv ((0:Int)+(↑k:Int)+(1:Int))).fmod (3:Int)] 1 (.le (.a (.c 1) (.v 0)) (.n (.v 0))) [(-1,.eq (.n (.v 0)) (.a (.c 1) (.v 0)))] rfl (Int.toNat_of_nonneg (a:=(1:Int)+(c10.fdiv ((0:Int)+(↑k:Int)+(1:Int))).fmod (3:Int)) (lin [] [(c10.fdiv ((0:Int)+(↑k:Int)+(1:Int))).fmod (3:Int)] 1 (.le (.c 0) (.a (.c 1) (.v 0))) [(1,.le (.c 0) (.v 0))] rfl (h3).1))) (lin [((1:Int)+(c10.fdiv ((0:Int)+(↑k:Int)+(1:Int))).fmod (3:Int)).toNat] [(c10.fdiv ((0:Int)+(↑k:Int)+(1:Int))).fmod (3:Int)] 1 (.le (.n (.v 0)) (.a (.c 1) (.v 0))) [(1,.eq (.n (.v 0)) (.a (.c 1) (.v 0)))] rfl (Int.toNat_of_nonneg (a:=(1:Int)+(c10.fdiv ((0:Int)+(↑k:Int)+(1:Int))).fmod (3:Int)) (lin [] [(c10.fdiv ((0:Int)+(↑k:Int)+(1:Int))).fmod (3:Int)] 1 (.le (.c 0) (.a (.c 1) (.v 0))) [(1,.le (.c 0) (.v 0))] rfl (h3).1))))
  generalize hee:(1+(c10.fdiv (0+(k:Int)+1)).fmod 3).toNat=e at e3
  obtain ⟨t,ht,ft⟩:=form_all hks hh.hok e (n+20) (by exact (lin [e,n] [(c10.fdiv ((0:Int)+(↑k:Int)+(1:Int))).fmod (3:Int)] 1 (.nle (.a (.m 3 (.v 0)) (.c 3)) (.a (.v 1) (.c 20))) [(3,.le (.a (.v 0) (.c 1)) (.c 3)),(-3,.eq (.a (.c 1) (.v 0)) (.n (.v 0)))] rfl (h3).2 e3)) q
  obtain ⟨t2,ht2,ft2⟩:=form_all hks hh.hok 2 (n+20) (by exact (lin [n] [] 1 (.nle (.a (.m 3 (.c 2)) (.c 3)) (.a (.v 0) (.c 20))) [] rfl)) q2
  have ht2:cF P (n+20) false 24 [.fz (.int q2),.fz (.int 2),sN h.ps,sN kn,sH hs]=some (.ok (.fz (enc t2)),[]):=ht2
  have hsz:(acc.map encF).length<Sz:=by rw [List.length_map]; show acc.length<16777216; exact (lin [acc.length] [] 1 (.nle (.a (.v 0) (.c 1)) (.c 16777216)) [(1,.nle (.v 0) (.c 1000))] rfl hl)
  have f1:iterD .range [.int ((h.ps.map PyData.str).length:Int)]=some ((List.range h.ps.length).map fun (k:Nat)=>PyData.int (0+k)):=by rw [lp]; exact (it_range _).trans hr
  have f2:op2 .fdiv (.int c10) (.int (0+(k:Int)+1))=some (.fz (.int (c10.fdiv (0+(k:Int)+1)))):=(o_fdiv _ _).trans (if_pos dz)
  have f3:op2 .fdiv (.int c11) (.int (0+(k:Int)+1))=some (.fz (.int (c11.fdiv (0+(k:Int)+1)))):=(o_fdiv _ _).trans (if_pos dz)
  rw [← e3] at ht
  clear hr dz e3
  by_cases qa:0<(c11.fdiv (0+(k:Int)+1)).fmod 3
  · have qa':(0<(c11.fdiv (0+(k:Int)+1)).fmod 3)↔True:=⟨fun J=>trivial,fun J=>qa⟩
    by_cases qb:(0:Int)<(h.ps.length:Int)
    · have qb':((0:Int)<(h.ps.length:Int))↔True:=⟨fun J=>trivial,fun J=>qb⟩
      have nz:((h.ps.length:Int)=0)=False:=by simp only [eq_iff_iff,iff_false]; exact (fun mvo58=>(linF [h.ps.length] [] [(1,.le (.a (.c 0) (.c 1)) (.n (.v 0))),(1,.eq (.n (.v 0)) (.c 0))] rfl qb mvo58))
      have hm2:=fm q2 h.ps.length qb
      obtain ⟨x,hx2,mx⟩:=idx_mem (xs:=h.ps.map PyData.str) (r:=q2.fmod h.ps.length) hm2.1 (by rw [lp]; exact hm2.2)
      obtain ⟨x,mk,rfl⟩:=List.mem_map.mp mx
      have fx:Fit h.ps (csOf hs) 1 (.nam x):=.nam mk
      have three:∀u:T,Fit h.ps (csOf hs) 2 u→Fit h.ps (csOf hs) 8 (.iff [u,t,t2]):=fun u fu=>Fit.iff (d:=7) rfl fun v hv=>by
        simp only [List.mem_cons,List.not_mem_nil,or_false] at hv
        rcases hv with rfl | rfl | rfl
        · exact fu.mono (by decide)
        · exact ft.mono (by exact (lin [e,((1:Int)+(c10.fdiv ((0:Int)+(↑k:Int)+(1:Int))).fmod (3:Int)).toNat] [(c10.fdiv ((0:Int)+(↑k:Int)+(1:Int))).fmod (3:Int)] 1 (.nle (.a (.v 0) (.c 4)) (.c 7)) [(1,.le (.a (.v 0) (.c 1)) (.c 3)),(-1,.neq (.v 1) (.v 0)),(1,.eq (.n (.v 1)) (.a (.c 1) (.v 0)))] rfl (h3).2 hee (Int.toNat_of_nonneg (a:=(1:Int)+(c10.fdiv ((0:Int)+(↑k:Int)+(1:Int))).fmod (3:Int)) (lin [] [(c10.fdiv ((0:Int)+(↑k:Int)+(1:Int))).fmod (3:Int)] 1 (.le (.c 0) (.a (.c 1) (.v 0))) [(1,.le (.c 0) (.v 0))] rfl (h3).1))))
        · exact ft2.mono (by decide)
      by_cases qc:(q2.fdiv 8).fmod 2=1
      · have qc':=qc
        refine ⟨.iff [.doo k_empty [.nam x],t,t2],.fz (.str h.nm),.fz (encN h.ps),.fz (.tuple (h.wn.map .bool)),.fz (.list (kn.map .str)),.fz (.int q),.fz (enc (.iff [.doo k_empty [.nam x],t,t2])),.fz (.int q2),.fz (enc (.doo k_empty [.nam x])),three _ (one_d (by kernel_rfl) (by kernel_rfl) fx),fun R hR=>?_⟩
        rw [List.map_append] at hR
        exact wkL [.d 0 (hx),.l 1 (f1),.cp 0 (hkn),.c 1 (hc6),.v 0 (hmu),.c 1 (hq),.c 0 (hc10),.v 1 (f2),.c 3 (ht),.c 0 (hc11),.v 1 (f3),.b 1 (show cmpD Cm.gt (PyData.int ((c11.fdiv ((0:Int)+(↑k:Int)+(1:Int))).fmod (3:Int))) (PyData.int (0:Int))=some true by simp only [c_gt,qa',decide_true]),.b 2 (show cmpD Cm.gt (PyData.int (↑(List.map PyData.str h.ps).length:Int)) (PyData.int (0:Int))=some true by simp only [lp,c_gt,qb',decide_true]),.c 2 (hq2),.v 1 (show op2 Op2.mod (PyData.int q2) (PyData.int (↑(List.map PyData.str h.ps).length:Int))=some (Rv.fz (PyData.int (q2.fmod (↑h.ps.length:Int)))) by simp only [lp,o_mod,nz,if_false]),.d 0 (hx2),.b 2 (show cmpD Cm.eq (PyData.int ((q2.fdiv (8:Int)).fmod (2:Int))) (PyData.int (1:Int))=some true by simp only [qc',c_eqI,decide_true]),.c 2 (ht2),.t 0 (show decide ((List.map encF acc).length<Sz)=true by simp only [hsz,decide_true]),.lp 0 (hR)] rfl (by kernel_rfl)
      · have qc':=qc
        refine ⟨.iff [.nam x,t,t2],.fz (.str h.nm),.fz (encN h.ps),.fz (.tuple (h.wn.map .bool)),.fz (.list (kn.map .str)),.fz (.int q),.fz (enc (.iff [.nam x,t,t2])),.fz (.int q2),.fz (enc (.nam x)),three _ (fx.mono (by decide)),fun R hR=>?_⟩
        rw [List.map_append] at hR
        exact wkL [.d 0 (hx),.l 1 (f1),.cp 0 (hkn),.c 1 (hc6),.v 0 (hmu),.c 1 (hq),.c 0 (hc10),.v 1 (f2),.c 3 (ht),.c 0 (hc11),.v 1 (f3),.b 1 (show cmpD Cm.gt (PyData.int ((c11.fdiv ((0:Int)+(↑k:Int)+(1:Int))).fmod (3:Int))) (PyData.int (0:Int))=some true by simp only [c_gt,qa',decide_true]),.b 2 (show cmpD Cm.gt (PyData.int (↑(List.map PyData.str h.ps).length:Int)) (PyData.int (0:Int))=some true by simp only [lp,c_gt,qb',decide_true]),.c 2 (hq2),.v 1 (show op2 Op2.mod (PyData.int q2) (PyData.int (↑(List.map PyData.str h.ps).length:Int))=some (Rv.fz (PyData.int (q2.fmod (↑h.ps.length:Int)))) by simp only [lp,o_mod,nz,if_false]),.d 0 (hx2),.b 2 (show cmpD Cm.eq (PyData.int ((q2.fdiv (8:Int)).fmod (2:Int))) (PyData.int (1:Int))=some false by simp only [c_eqI,qc',decide_false]),.c 2 (ht2),.t 0 (show decide ((List.map encF acc).length<Sz)=true by simp only [hsz,decide_true]),.lp 0 (hR)] rfl (by kernel_rfl)
    · have qb':((0:Int)<(h.ps.length:Int))↔False:=⟨qb,False.elim⟩
      refine ⟨t,.fz (.str h.nm),.fz (encN h.ps),.fz (.tuple (h.wn.map .bool)),.fz (.list (kn.map .str)),.fz (.int q),.fz (enc t),.no,.no,ft.mono (by exact (lin [e,((1:Int)+(c10.fdiv ((0:Int)+(↑k:Int)+(1:Int))).fmod (3:Int)).toNat] [(c10.fdiv ((0:Int)+(↑k:Int)+(1:Int))).fmod (3:Int)] 1 (.nle (.a (.v 0) (.c 4)) (.c 8)) [(1,.le (.a (.v 0) (.c 1)) (.c 3)),(-1,.neq (.v 1) (.v 0)),(1,.eq (.n (.v 1)) (.a (.c 1) (.v 0)))] rfl (h3).2 hee (Int.toNat_of_nonneg (a:=(1:Int)+(c10.fdiv ((0:Int)+(↑k:Int)+(1:Int))).fmod (3:Int)) (lin [] [(c10.fdiv ((0:Int)+(↑k:Int)+(1:Int))).fmod (3:Int)] 1 (.le (.c 0) (.a (.c 1) (.v 0))) [(1,.le (.c 0) (.v 0))] rfl (h3).1)))),fun R hR=>?_⟩
      rw [List.map_append] at hR
      exact wkL [.d 0 (hx),.l 1 (f1),.cp 0 (hkn),.c 1 (hc6),.v 0 (hmu),.c 1 (hq),.c 0 (hc10),.v 1 (f2),.c 3 (ht),.c 0 (hc11),.v 1 (f3),.b 1 (show cmpD Cm.gt (PyData.int ((c11.fdiv ((0:Int)+(↑k:Int)+(1:Int))).fmod (3:Int))) (PyData.int (0:Int))=some true by simp only [c_gt,qa',decide_true]),.b 2 (show cmpD Cm.gt (PyData.int (↑(List.map PyData.str h.ps).length:Int)) (PyData.int (0:Int))=some false by simp only [lp,c_gt,qb',decide_false]),.t 1 (show decide ((List.map encF acc).length<Sz)=true by simp only [hsz,decide_true]),.lp 0 (hR)] rfl (by kernel_rfl)
  · have qa':(0<(c11.fdiv (0+(k:Int)+1)).fmod 3)↔False:=⟨qa,False.elim⟩
    refine ⟨t,.fz (.str h.nm),.fz (encN h.ps),.fz (.tuple (h.wn.map .bool)),.fz (.list (kn.map .str)),.fz (.int q),.fz (enc t),.no,.no,ft.mono (by exact (lin [e,((1:Int)+(c10.fdiv ((0:Int)+(↑k:Int)+(1:Int))).fmod (3:Int)).toNat] [(c10.fdiv ((0:Int)+(↑k:Int)+(1:Int))).fmod (3:Int)] 1 (.nle (.a (.v 0) (.c 4)) (.c 8)) [(1,.le (.a (.v 0) (.c 1)) (.c 3)),(-1,.neq (.v 1) (.v 0)),(1,.eq (.n (.v 1)) (.a (.c 1) (.v 0)))] rfl (h3).2 hee (Int.toNat_of_nonneg (a:=(1:Int)+(c10.fdiv ((0:Int)+(↑k:Int)+(1:Int))).fmod (3:Int)) (lin [] [(c10.fdiv ((0:Int)+(↑k:Int)+(1:Int))).fmod (3:Int)] 1 (.le (.c 0) (.a (.c 1) (.v 0))) [(1,.le (.c 0) (.v 0))] rfl (h3).1)))),fun R hR=>?_⟩
    rw [List.map_append] at hR
    exact wkL [.d 0 (hx),.l 1 (f1),.cp 0 (hkn),.c 1 (hc6),.v 0 (hmu),.c 1 (hq),.c 0 (hc10),.v 1 (f2),.c 3 (ht),.c 0 (hc11),.v 1 (f3),.b 1 (show cmpD Cm.gt (PyData.int ((c11.fdiv ((0:Int)+(↑k:Int)+(1:Int))).fmod (3:Int))) (PyData.int (0:Int))=some false by simp only [c_gt,qa',decide_false]),.t 2 (show decide ((List.map encF acc).length<Sz)=true by simp only [hsz,decide_true]),.lp 0 (hR)] rfl (by kernel_rfl)
theorem prog_loop (n:Nat) (xs:List Int) {l:List Str} {hs:List Hd} (hh:HdsOk l hs) :∀(ks:List Nat) (acc:List Fun) (s3 s4 s5 s6 s7 s8 s9 s10 s11:Slot),(∀k∈ks,k<hs.length)→acc.length+ks.length≤1000→Ex13 (fun fs=>forB ⟨P.glob,cF P (n+20),[],false⟩ [.fz (.list (xs.map .int)),sH hs,.own (.list (acc.map encF)),s3,s4,s5,s6,s7,s8,s9,s10,s11,.no] (.one 3) progB [3,4,5,6,7,8,9,10,11] (ks.map fun (k:Nat)=>.int (0+k))=some (.ok .next,[.fz (.list (xs.map .int)),sH hs,.own (.list ((acc++fs).map encF)),.no,.no,.no,.no,.no,.no,.no,.no,.no,.no])) (fun fs=>(fs.map fun f=>(f.1,f.2.1))=(ks.map fun k=>((hs.getD k hd0).nm,(hs.getD k hd0).ps))) (fun fs=> ∀f∈fs,Fit f.2.1 (csOf hs) 8 f.2.2)
  | []=>@fun acc s3 s4 s5 s6 s7 s8 s9 s10 s11 J U=>⟨[],by rw [List.map_nil,forB_nil,List.append_nil]; rfl,rfl,fun f h=>by cases h⟩
  | k::ks=>@fun acc s3 s4 s5 s6 s7 s8 s9 s10 s11 hk hl=>by
    rw [List.length_cons] at hl
    obtain ⟨t,a4,a5,a6,a7,a8,a9,a10,a11,ft,st⟩:=prog_step n xs hh k (hk k List.mem_cons_self) acc (by exact (lin [acc.length,ks.length] [] 1 (.nle (.v 0) (.c 1000)) [(1,.nle (.a (.v 0) (.a (.v 1) (.c 1))) (.c 1000))] rfl hl)) s3 s4 s5 s6 s7 s8 s9 s10 s11 (ks.map fun (k:Nat)=>.int (0+k))
    obtain ⟨fs,ih,hm,hf⟩:=prog_loop n xs hh ks (acc++[((hs.getD k hd0).nm,(hs.getD k hd0).ps,t)]) (.fz (.int (0+k))) a4 a5 a6 a7 a8 a9 a10 a11 (fun j hj=>hk j (List.mem_cons_of_mem _ hj)) (by rw [List.length_append]; show acc.length+1+ks.length≤1000; exact (lin [acc.length,ks.length] [] 1 (.nle (.a (.a (.v 0) (.c 1)) (.v 1)) (.c 1000)) [(1,.nle (.a (.v 0) (.a (.v 1) (.c 1))) (.c 1000))] rfl hl))
    refine ⟨((hs.getD k hd0).nm,(hs.getD k hd0).ps,t)::fs,?_,by rw [List.map_cons,List.map_cons,hm],fun f h=>?_⟩
    · rw [List.append_assoc] at ih
      exact st _ ih
    · rcases List.mem_cons.mp h with rfl | h
      · exact ft
      · exact hf f h
theorem range_get (hs:List Hd) :((List.range hs.length).map fun k=>((hs.getD k hd0).nm,(hs.getD k hd0).ps))=hs.map fun h=>(h.nm,h.ps):=by
  apply List.ext_getElem?
  intro i
  rw [List.getElem?_map,List.getElem?_map]
  by_cases q:i<hs.length
  · rw [List.getElem?_range q,List.getElem?_eq_getElem q]
    show some ((hs.getD i hd0).nm,(hs.getD i hd0).ps)=some (hs[i].nm,hs[i].ps)
    rw [List.getD_eq_getElem?_getD,List.getElem?_eq_getElem q]; rfl
  · rw [List.getElem?_eq_none (by rw [List.length_range]; exact (Nat.not_lt.mp q)),List.getElem?_eq_none (by exact (Nat.not_lt.mp q))]; rfl
structure PrOk (hs:List Hd) (fs:List Fun) :Prop where
  hd:(fs.map fun f=>(f.1,f.2.1))=hs.map fun h=>(h.nm,h.ps)
  ok:∀f∈fs,Fit f.2.1 (csOf hs) 8 f.2.2
theorem program_eq (n:Nat) (xs:List Int) {l:List Str} {hs:List Hd} (hh:HdsOk l hs) :Ex12 (fun fs=>cF P (n+21) false 26 [.fz (.list (xs.map .int)),sH hs]=some (.ok (.fz (encP fs)),[])) (fun fs=>PrOk hs fs):=by
  have h4:=hh.le
  obtain ⟨fs,ih,hm,hf⟩:=prog_loop n xs hh (List.range hs.length) [] .no .no .no .no .no .no .no .no .no (fun k hk=>List.mem_range.mp hk) (by rw [List.length_range]; show 0+hs.length≤1000; exact (lin [hs.length] [] 1 (.nle (.a (.c 0) (.v 0)) (.c 1000)) [(1,.nle (.v 0) (.c 4))] rfl h4))
  rw [range_get] at hm
  rw [List.map_nil,List.nil_append] at ih
  refine ⟨fs,?_,hm,hf⟩
  have hr:=range_ok hs.length (by exact (lin [hs.length] [] 1 (.nle (.v 0) (.c 1000)) [(1,.nle (.v 0) (.c 4))] rfl h4))
  have lp:(((hs.map encH).length:Nat) :Int)=(hs.length:Int):=by rw [List.length_map]
  exact wkF [.l 1 (show iterD Itk.range [PyData.int (↑(List.map encH hs).length:Int)]=some (List.map (fun (k:Nat)=>PyData.int ((0:Int)+(↑k:Int))) (List.range hs.length)) by simp only [lp,it_range,Int.reduceNeg,hr]),.lp 0 (ih)] rfl (by kernel_rfl)
end Lq
end
section
namespace Lq
open PySem Mv
mutual
noncomputable def sz:T→Nat
  | .iff ps=>1+szs ps
  | .doo _ ps=>1+szs ps
  | .call _ ps=>1+szs ps
  | _=>1
noncomputable def szs:List T→Nat
  | []=>0
  | t::ts=>sz t+szs ts
end
mutual
noncomputable def ht:T→Nat
  | .iff ps=>1+hts ps
  | .doo _ ps=>1+hts ps
  | .call _ ps=>1+hts ps
  | _=>1
noncomputable def hts:List T→Nat
  | []=>0
  | t::ts=>max (ht t) (hts ts)
end
theorem ar8 {op:Str} {k:Nat} (h:takesB op k=true) :k≤8:=by
  unfold takesB at h
  by_cases q:op=k_list
  · rw [if_pos q] at h; have:=of_decide_eq_true h; exact (lin [k] [] 1 (.nle (.v 0) (.c 8)) [(1,.le (.n (.v 0)) (.c 8))] rfl this)
  · rw [if_neg q] at h
    have h:=eq_of_beq h
    split at h <;> (first | exact (lin [k] [] 1 (.nle (.v 0) (.c 8)) [(1,.eq (.n (.v 0)) (.c 2))] rfl h) | exact (lin [k] [] 1 (.nle (.v 0) (.c 8)) [(1,.eq (.n (.v 0)) (.c 1))] rfl h))
theorem szs_le {X:Nat} :∀(ts:List T),(∀t∈ts,7*sz t+1≤X)→7*szs ts+ts.length≤ts.length*X
  | []=>@fun J=>by simp [szs]
  | t::ts=>@fun h=>by
    have h1:=h t List.mem_cons_self
    have h2:=szs_le ts fun u hu=>h u (List.mem_cons_of_mem _ hu)
    show 7*(sz t+szs ts)+(ts.length+1)≤(ts.length+1)*X
    rw [Nat.add_mul]; exact (lin [sz t,szs ts,ts.length,ts.length*X,X] [] 1 (.nle (.a (.m 7 (.a (.v 0) (.v 1))) (.a (.v 2) (.c 1))) (.a (.v 3) (.m 1 (.v 4)))) [(1,.nle (.a (.m 7 (.v 0)) (.c 1)) (.v 4)),(1,.nle (.a (.m 7 (.v 1)) (.v 2)) (.v 3))] rfl h1 h2)
theorem hts_le {m:Nat} :∀(ts:List T),(∀t∈ts,ht t≤m)→hts ts≤m
  | []=>@fun J=>Nat.zero_le _
  | t::ts=>@fun h=>by
    have h1:=h t List.mem_cons_self
    have h2:=hts_le ts fun u hu=>h u (List.mem_cons_of_mem _ hu)
    show max (ht t) (hts ts)≤m
    exact (Nat.max_le.mpr ⟨h1,h2⟩)
theorem up8 {k X s:Nat} (hk:k≤8) (hX:1≤X) (h:7*s+k≤k*X) :7*(1+s)+1≤X*8:=by
  obtain ⟨j,hj⟩ :∃j,k+j=8:=⟨8 - k,by exact (Nat.le_antisymm (lin [k,(8:Nat) - k] [] 1 (.nle (.a (.v 0) (.v 1)) (.c 8)) [(1,.neq (.a (.v 1) (.v 0)) (.c 8))] rfl (Nat.sub_add_cancel (n:=(8:Nat)) (m:=k) hk)) (lin [k,(8:Nat) - k] [] 1 (.nle (.c 8) (.a (.v 0) (.v 1))) [(-1,.neq (.a (.v 1) (.v 0)) (.c 8))] rfl (Nat.sub_add_cancel (n:=(8:Nat)) (m:=k) hk)))⟩
  have t:j*1≤j*X:=Nat.mul_le_mul_left _ hX
  have e:X*8=k*X+j*X:=by rw [← hj,Nat.mul_add,Nat.mul_comm X k,Nat.mul_comm X j]
  exact (lin [s,X*(8:Nat),k,k*X,j,j*(1:Nat),j*X] [] 1 (.nle (.a (.m 7 (.a (.c 1) (.v 0))) (.c 1)) (.v 1)) [(1,.nle (.a (.m 7 (.v 0)) (.v 2)) (.v 3)),(-1,.neq (.a (.v 2) (.v 4)) (.c 8)),(1,.nle (.v 5) (.v 6)),(-1,.neq (.v 1) (.a (.v 3) (.v 6))),(-1,.neq (.v 5) (.m 1 (.v 4)))] rfl h hj t e (Nat.mul_comm (j) ((1:Nat))))
theorem isb_small {ns:List Str} {cs:List (Str×Nat)} (hc:∀f k,cnt cs f=some k→k≤8) :∀(r:Nat) (t:T),isb ns cs r t=true→7*sz t+1≤8 ^ r∧ht t≤r
  | 0=>@fun t h=>by cases h
  | r+1=>@fun t h=>by
    have hX:1≤8 ^ r:=Nat.pow_pos (by decide)
    have lf:7*1+1≤8 ^ (r+1)∧1≤r+1:=⟨by rw [Nat.pow_succ]; exact (lin [(8:Nat) ^ r*(8:Nat),(8:Nat) ^ r] [] 1 (.nle (.a (.m 7 (.c 1)) (.c 1)) (.v 0)) [(8,.nle (.c 1) (.v 1)),(-1,.neq (.v 0) (.m 8 (.v 1)))] rfl hX (Nat.mul_comm ((8:Nat) ^ r) ((8:Nat)))),by exact (lin [r] [] 1 (.nle (.c 1) (.a (.v 0) (.c 1))) [] rfl)⟩
    have go:∀ps:List T,ps.length≤8→ps.all (isb ns cs r)=true→7*(1+szs ps)+1≤8 ^ (r+1)∧1+hts ps≤r+1:=fun ps h8 hp=>by
      rw [List.all_eq_true] at hp
      refine ⟨?_,?_⟩
      · rw [Nat.pow_succ]
        exact up8 h8 hX (szs_le ps fun t ht=>(isb_small hc r t (hp t ht)).1)
      · have:=hts_le ps fun t ht=>(isb_small hc r t (hp t ht)).2
        exact (lin [hts ps,r] [] 1 (.nle (.a (.c 1) (.v 0)) (.a (.v 1) (.c 1))) [(1,.nle (.v 0) (.v 1))] rfl this)
    cases t with
    | val d=>exact lf
    | nam d=>exact lf
    | ref d=>exact lf
    | odd d=>exact lf
    | iff ps=>
      have h:(decide (ps.length=3)&&ps.all (isb ns cs r))=true:=h
      rw [Bool.and_eq_true,decide_eq_true_eq] at h
      exact go ps (by exact (lin [ps.length] [] 1 (.nle (.v 0) (.c 8)) [(1,.neq (.v 0) (.c 3))] rfl (h).1)) h.2
    | doo f ps=>
      have h:(isOp f&&(takesB f ps.length&&ps.all (isb ns cs r)))=true:=h
      rw [Bool.and_eq_true,Bool.and_eq_true] at h
      exact go ps (ar8 h.2.1) h.2.2
    | call f ps=>
      have h:(decide (cnt cs f=some ps.length)&&ps.all (isb ns cs r))=true:=h
      rw [Bool.and_eq_true,decide_eq_true_eq] at h
      exact go ps (hc _ _ h.1) h.2
end Lq
end
section
namespace Lq
open PySem Mv
mutual
noncomputable def cin:T→List T
  | .iff ps=>cins ps
  | .doo _ ps=>cins ps
  | .call f ps=>cins ps++[.call f ps]
  | _=>[]
noncomputable def cins:List T→List T
  | []=>[]
  | t::ts=>cin t++cins ts
end
mutual
theorem cin_len:∀t:T,(cin t).length≤sz t
  | .val _=>Nat.zero_le _
  | .nam _=>Nat.zero_le _
  | .ref _=>Nat.zero_le _
  | .odd _=>Nat.zero_le _
  | .iff ps=>by show (cins ps).length≤1+szs ps; have:=cins_len ps; exact (lin [(cins ps).length,szs ps] [] 1 (.nle (.v 0) (.a (.c 1) (.v 1))) [(1,.nle (.v 0) (.v 1))] rfl this)
  | .doo _ ps=>by show (cins ps).length≤1+szs ps; have:=cins_len ps; exact (lin [(cins ps).length,szs ps] [] 1 (.nle (.v 0) (.a (.c 1) (.v 1))) [(1,.nle (.v 0) (.v 1))] rfl this)
  | .call f ps=>by show (cins ps++[T.call f ps]).length≤1+szs ps; rw [List.length_append]; have:=cins_len ps; show (cins ps).length+1≤_; exact (lin [(cins ps).length,szs ps] [] 1 (.nle (.a (.v 0) (.c 1)) (.a (.c 1) (.v 1))) [(1,.nle (.v 0) (.v 1))] rfl this)
theorem cins_len:∀ts:List T,(cins ts).length≤szs ts
  | []=>Nat.zero_le _
  | t::ts=>by show (cin t++cins ts).length≤sz t+szs ts; rw [List.length_append]; have:=cin_len t; have:=cins_len ts; exact (lin [(cin t).length,(cins ts).length,sz t,szs ts] [] 1 (.nle (.a (.v 0) (.v 1)) (.a (.v 2) (.v 3))) [(1,.nle (.v 0) (.v 2)),(1,.nle (.v 1) (.v 3))] rfl ‹(cin t).length≤sz t› this)
end
noncomputable def CiAt (m:Nat) (t:T) :Prop:=Ex12 (fun r=>cF P m false 0 [.fz (enc t)]=some (.ok r,[])) (fun r=>r = .fz (.list (encs (cin t)))∨r = .own (.list (encs (cin t))))
noncomputable abbrev ciB:List St:=[.asg (.one 2) (.op2 .add (.pl (.var 2)) (.call 0 [(.var 3)]))]
theorem ci_loop (m:Nat) (a0 a1:Slot) :∀(ts L0:List T) (s3:Slot),(∀u∈ts,CiAt m u)→L0.length+szs ts≤Sz→forB ⟨P.glob,cF P m,[],false⟩ [a0,a1,.own (.list (encs L0)),s3] (.one 3) ciB [3] (encs ts)=some (.ok .next,[a0,a1,.own (.list (encs (L0++cins ts))),.no])
  | []=>@fun L0 s3 J U=>by rw [encs,forB_nil,cins,List.append_nil]; rfl
  | u::ts=>@fun L0 s3 hF hl=>by
    obtain ⟨r,hu,hr⟩:=hF u List.mem_cons_self
    have hl:L0.length+(sz u+szs ts)≤Sz:=hl
    have hc:=cin_len u
    have hz:(encs L0).length+(encs (cin u)).length≤Sz:=by rw [encs_len,encs_len]; exact (lin [L0.length,(cin u).length,sz u,szs ts] [] 1 (.nle (.a (.v 0) (.v 1)) (.c 16777216)) [(1,.nle (.a (.v 0) (.a (.v 2) (.v 3))) (.c 16777216)),(1,.nle (.v 1) (.v 2))] rfl hl hc)
    have ih:=ci_loop m a0 a1 ts (L0++cin u) (.fz (enc u)) (fun v hv=>hF v (List.mem_cons_of_mem _ hv)) (by rw [List.length_append]; exact (lin [L0.length,(cin u).length,szs ts,sz u] [] 1 (.nle (.a (.a (.v 0) (.v 1)) (.v 2)) (.c 16777216)) [(1,.nle (.a (.v 0) (.a (.v 3) (.v 2))) (.c 16777216)),(1,.nle (.v 1) (.v 3))] rfl hl hc))
    rw [encs_app,List.append_assoc,show cin u++cins ts=cins (u::ts) from rfl] at ih
    rw [encs]
    rcases hr with rfl | rfl <;> exact wkL [.c 0 (hu),.v 0 (show op2 Op2.add (PyData.list (encs L0)) (PyData.list (encs (cin u)))=some (Rv.own (PyData.list (encs L0++encs (cin u)))) by simp only [o_addL,eq_true hz,if_true]),.lp 0 (ih)] rfl (by kernel_rfl)
theorem ci_leaf (m:Nat) (x:Str) (ds:List D) (hm:memS x [k_value,k_name,k_refuse]=true) :cF P (m+1) false 0 [.fz (.tuple (.str x::ds))]=some (.ok (.own (.list [])),[]):=by
  have hd:=(in_vnr x).trans (congrArg some hm)
  exact wkF [.b 1 (hd)] rfl (by kernel_rfl)
theorem ci_if (m:Nat) (ts:List T) (hF:∀u∈ts,CiAt m u) (hl:szs ts≤Sz) :CiAt (m+1) (.iff ts):=by
  have hd:=(in_vnr k_if).trans (congrArg some m_i)
  have hs:=slc_rest (.str k_if) (encs ts)
  have ih:=ci_loop m (.fz (enc (.iff ts))) (.fz (.tuple (encs ts))) ts [] .no hF (by show 0+szs ts≤Sz; exact (lin [szs ts] [] 1 (.nle (.a (.c 0) (.v 0)) (.c 16777216)) [(1,.nle (.v 0) (.c 16777216))] rfl hl))
  have hq:(k_if=k_call)=False:=by simp
  refine ⟨_,?_,.inl rfl⟩
  rw [List.nil_append] at ih
  rw [enc] at ih ⊢
  show _=some (Except.ok (Rv.fz (.list (encs (cins ts)))),[])
  exact wkF [.v 6 (hs),.lp 1 (ih)] rfl (by kernel_rfl)
theorem ci_do (m:Nat) (f:Str) (ts:List T) (hF:∀u∈ts,CiAt m u) (hl:szs ts≤Sz) :CiAt (m+1) (.doo f ts):=by
  have hd:=(in_vnr k_do).trans (congrArg some m_d)
  have ih:=ci_loop m (.fz (enc (.doo f ts))) (.fz (.tuple (encs ts))) ts [] .no hF (by show 0+szs ts≤Sz; exact (lin [szs ts] [] 1 (.nle (.a (.c 0) (.v 0)) (.c 16777216)) [(1,.nle (.v 0) (.c 16777216))] rfl hl))
  have hq:(k_do=k_call)=False:=by simp
  have hi:(k_do=k_if)=False:=by simp
  refine ⟨_,?_,.inl rfl⟩
  rw [List.nil_append] at ih
  rw [enc] at ih ⊢
  show _=some (Except.ok (Rv.fz (.list (encs (cins ts)))),[])
  exact wkF [.lp 8 (ih)] rfl (by kernel_rfl)
theorem ci_call (m:Nat) (f:Str) (ts:List T) (hF:∀u∈ts,CiAt m u) (hl:1+szs ts≤Sz) :CiAt (m+1) (.call f ts):=by
  have hd:=(in_vnr k_call).trans (congrArg some m_c)
  have ih:=ci_loop m (.fz (enc (.call f ts))) (.fz (.tuple (encs ts))) ts [] .no hF (by show 0+szs ts≤Sz; exact (lin [szs ts] [] 1 (.nle (.a (.c 0) (.v 0)) (.c 16777216)) [(1,.nle (.a (.c 1) (.v 0)) (.c 16777216))] rfl hl))
  have hi:(k_call=k_if)=False:=by simp
  have hc:=cins_len ts
  have hz:(encs (cins ts)).length<Sz:=by rw [encs_len]; exact (lin [(cins ts).length,szs ts] [] 1 (.nle (.a (.v 0) (.c 1)) (.c 16777216)) [(1,.nle (.a (.c 1) (.v 1)) (.c 16777216)),(1,.nle (.v 0) (.v 1))] rfl hl hc)
  refine ⟨_,?_,.inl rfl⟩
  rw [List.nil_append] at ih
  show _=some (Except.ok (Rv.fz (.list (encs (cins ts++[T.call f ts])))),[])
  rw [encs_app,encs,encs]
  rw [enc] at ih ⊢
  exact wkF [.lp 8 (ih),.t 3 (show decide ((encs (cins ts)).length<Sz)=true by simp only [eq_true hz,decide_true])] rfl (by kernel_rfl)
theorem sz_mem {ts:List T} {u:T} (h:u∈ts) :sz u≤szs ts:=by
  induction ts with
  | nil=>cases h
  | cons t ts ih=>
    show sz u≤sz t+szs ts
    rcases List.mem_cons.mp h with rfl | h
    · exact (lin [sz u,szs ts] [] 1 (.nle (.v 0) (.a (.v 0) (.v 1))) [] rfl)
    · have:=ih h; exact (lin [sz u,sz t,szs ts] [] 1 (.nle (.v 0) (.a (.v 1) (.v 2))) [(1,.nle (.v 0) (.v 2))] rfl this)
theorem all_mem {ns:List Str} {cs:List (Str×Nat)} {r:Nat} {ps:List T} (h:ps.all (isb ns cs r)=true) {u:T} (hu:u∈ps) :isb ns cs r u=true:=List.all_eq_true.mp h u hu
theorem isb_iff {ns:List Str} {cs:List (Str×Nat)} {r:Nat} {ps:List T} (h:isb ns cs (r+1) (.iff ps)=true) :ps.length=3∧ps.all (isb ns cs r)=true:=by
  rw [isb,Bool.and_eq_true,decide_eq_true_eq] at h; exact h
theorem isb_doo {ns:List Str} {cs:List (Str×Nat)} {r:Nat} {op:Str} {ps:List T} (h:isb ns cs (r+1) (.doo op ps)=true) :isOp op=true∧takesB op ps.length=true∧ps.all (isb ns cs r)=true:=by
  rw [isb,Bool.and_eq_true,Bool.and_eq_true] at h; exact h
theorem isb_call {ns:List Str} {cs:List (Str×Nat)} {r:Nat} {f:Str} {ps:List T} (h:isb ns cs (r+1) (.call f ps)=true) :cnt cs f=some ps.length∧ps.all (isb ns cs r)=true:=by
  rw [isb,Bool.and_eq_true,decide_eq_true_eq] at h; exact h
theorem calls_in_eq {ns:List Str} {cs:List (Str×Nat)} (n:Nat) :∀(r:Nat) (t:T),isb ns cs r t=true→sz t≤Sz→CiAt (n+r) t
  | 0=>@fun t h J=>by cases h
  | r+1=>@fun t h hs=>by
    have go:∀ts:List T,ts.all (isb ns cs r)=true→1+szs ts≤Sz→ ∀u∈ts,CiAt (n+r) u:=fun ts h1 h2 u hu=>calls_in_eq n r u (all_mem h1 hu) (by have:=sz_mem hu; exact (lin [sz u,szs ts] [] 1 (.nle (.v 0) (.c 16777216)) [(1,.nle (.a (.c 1) (.v 1)) (.c 16777216)),(1,.nle (.v 0) (.v 1))] rfl h2 this))
    cases t with
    | val d=>exact ⟨_,ci_leaf (n+r) k_value [d] m_v,.inr rfl⟩
    | nam x=>exact ⟨_,ci_leaf (n+r) k_name [.str x] m_n,.inr rfl⟩
    | ref x=>exact ⟨_,ci_leaf (n+r) k_refuse [.str x] m_r,.inr rfl⟩
    | odd b=>cases h
    | iff ps=>exact ci_if (n+r) ps (go ps (isb_iff h).2 hs) (by have:1+szs ps≤Sz:=hs; exact (lin [szs ps] [] 1 (.nle (.v 0) (.c 16777216)) [(1,.nle (.a (.c 1) (.v 0)) (.c 16777216))] rfl this))
    | doo f ps=>exact ci_do (n+r) f ps (go ps (isb_doo h).2.2 hs) (by have:1+szs ps≤Sz:=hs; exact (lin [szs ps] [] 1 (.nle (.v 0) (.c 16777216)) [(1,.nle (.a (.c 1) (.v 0)) (.c 16777216))] rfl this))
    | call f ps=>exact ci_call (n+r) f ps (go ps (isb_call h).2 hs) hs
end Lq
end
section
namespace Lq
open PySem Mv
noncomputable abbrev tame3:List Str:=[k_first,k_rest,k_down]
noncomputable def tm (kn:List Str) :Nat→T→Bool
  | 0,_=>false
  | r+1,t=>match t with
    | .val _=>true
    | .ref _=>true
    | .nam x=>memS x kn
    | .doo op (p::_)=>memS op tame3&&tm kn r p
    | _=>false
theorem in_T3 (x:Str) :inD (.str x) g_TAME=some (memS x tame3):=in_strT x tame3
theorem in_T3' (x:Str) :inD (.str x) (.tuple [(S [102,105,114,115,116]),(S [114,101,115,116]),(S [100,111,119,110])])=some (memS x tame3):=in_strT x tame3
theorem in_vr (x:Str) :inD (.str x) (.tuple [.str k_value,.str k_refuse])=some (memS x [k_value,k_refuse]):=in_strT x [k_value,k_refuse]
noncomputable abbrev okb (b:Bool) :Option (Except Str Rv×List Slot):=some (.ok (.fz (.bool b)),[])
theorem tame_leaf (n:Nat) (x:Str) (ds:List D) (kn:D) (hn:(x=k_name)=False) (hd:(x=k_do)=False) :cF P (n+1) false 1 [.fz (.tuple (.str x::ds)),.fz kn]=okb (memS x [k_value,k_refuse])∧True:=by
  have hi:=in_vr x
  refine ⟨?_,trivial⟩
  exact wkF [.b 1 (show cmpD Cm.eq (PyData.str x) (PyData.str {cps:=#[(110:Nat),(97:Nat),(109:Nat),(101:Nat)]})=some false by simp only [c_eqS,hn,decide_false]),.b 2 (show cmpD Cm.eq (PyData.str x) (PyData.str {cps:=#[(100:Nat),(111:Nat)]})=some false by simp only [c_eqS,hd,decide_false]),.b 2 (hi)] rfl (by kernel_rfl)
theorem tame_nam (n:Nat) (x:Str) (kn:List Str) :cF P (n+1) false 1 [.fz (enc (.nam x)),sN kn]=okb (memS x kn):=by
  have hi:=in_strL x kn
  rw [enc]
  exact wkF [.b 4 (hi)] rfl (by kernel_rfl)
theorem tame_do (n:Nat) (op:Str) (d:D) (ds:List D) (kn:List Str) (b:Bool) (h:cF P n false 1 [.fz d,sN kn]=okb b) :cF P (n+1) false 1 [.fz (.tuple [.str k_do,.str op,.tuple (d::ds)]),sN kn]=okb (memS op tame3&&b):=by
  have hi:=in_T3 op
  have hn:(k_do=k_name)=False:=by simp
  cases q:memS op tame3 <;> rw [q] at hi <;> cases b <;> (first | exact wkF [.b 7 (hi)] rfl (by kernel_rfl!) | exact wkF [.b 7 (hi),.c 3 (h)] rfl (by kernel_rfl!))
theorem tame_do0 (n:Nat) (op:Str) (kn:List Str) (hq:memS op tame3=false) :cF P (n+1) false 1 [.fz (.tuple [.str k_do,.str op,.tuple []]),sN kn]=okb false:=by
  have hi:=in_T3 op
  rw [hq] at hi
  have hn:(k_do=k_name)=False:=by simp
  exact wkF [.b 7 (hi)] rfl (by kernel_rfl)
theorem ltame_leaf (n:Nat) (x:Str) (ds:List D) (kn:D) (h:memS x [k_value,k_refuse]=true) :cF P (n+1) false 29 [.fz (.tuple (.str x::ds)),.fz kn]=okb true:=by
  have hi:=(in_vr x).trans (congrArg some h)
  exact wkF [.b 1 (hi)] rfl (by kernel_rfl)
theorem ltame_no (n:Nat) (x:Str) (ds:List D) (kn:D) (h:memS x [k_value,k_refuse]=false) (hn:(x=k_name)=False) (hd:(x=k_do)=False) :cF P (n+1) false 29 [.fz (.tuple (.str x::ds)),.fz kn]=okb false:=by
  have hi:=(in_vr x).trans (congrArg some h)
  exact wkF [.b 1 (hi),.b 2 (show cmpD Cm.eq (PyData.str x) (PyData.str {cps:=#[(110:Nat),(97:Nat),(109:Nat),(101:Nat)]})=some false by simp only [c_eqS,hn,decide_false]),.b 2 (show cmpD Cm.eq (PyData.str x) (PyData.str {cps:=#[(100:Nat),(111:Nat)]})=some false by simp only [c_eqS,hd,decide_false])] rfl (by kernel_rfl)
theorem ltame_nam (n:Nat) (x:Str) (kn:List Str) :cF P (n+1) false 29 [.fz (enc (.nam x)),sN kn]=okb (memS x kn):=by
  have hi:=in_strL x kn
  have hv:=(in_vr k_name).trans (congrArg some (show memS k_name [k_value,k_refuse]=false from by kernel_rfl))
  rw [enc]
  exact wkF [.b 7 (hi)] rfl (by kernel_rfl)
theorem ltame_do (n:Nat) (op:Str) (d:D) (ds:List D) (kn:List Str) (b:Bool) (h:cF P n false 29 [.fz d,sN kn]=okb b) :cF P (n+1) false 29 [.fz (.tuple [.str k_do,.str op,.tuple (d::ds)]),sN kn]=okb (memS op tame3&&b):=by
  have hi:=in_T3' op
  have hn:(k_do=k_name)=False:=by simp
  have hv:=(in_vr k_do).trans (congrArg some (show memS k_do [k_value,k_refuse]=false from by kernel_rfl))
  cases q:memS op tame3 <;> rw [q] at hi <;> cases b <;> (first | exact wkF [.b 10 (hi)] rfl (by kernel_rfl!) | exact wkF [.b 10 (hi),.c 3 (h)] rfl (by kernel_rfl!))
theorem ltame_do0 (n:Nat) (op:Str) (kn:List Str) (hq:memS op tame3=false) :cF P (n+1) false 29 [.fz (.tuple [.str k_do,.str op,.tuple []]),sN kn]=okb false:=by
  have hi:=in_T3' op
  rw [hq] at hi
  have hn:(k_do=k_name)=False:=by simp
  have hv:=(in_vr k_do).trans (congrArg some (show memS k_do [k_value,k_refuse]=false from by kernel_rfl))
  exact wkF [.b 10 (hi)] rfl (by kernel_rfl)
theorem take1 {op:Str} (h:takesB op (0:Nat)=true) :memS op tame3=false:=by
  cases q:memS op tame3 with
  | false=>rfl
  | true=>
    have:=memS_iff.mp q
    simp only [List.mem_cons,List.not_mem_nil,or_false] at this
    rcases this with rfl | rfl | rfl <;> exact absurd h (by decide)
theorem tame_both {ns:List Str} {cs:List (Str×Nat)} (n:Nat) (kn:List Str) :∀(r:Nat) (t:T),isb ns cs r t=true→cF P (n+r) false 1 [.fz (enc t),sN kn]=okb (tm kn r t)∧cF P (n+r) false 29 [.fz (enc t),sN kn]=okb (tm kn r t)
  | 0=>@fun t h=>by cases h
  | r+1=>@fun t h=>by
    cases t with
    | val d=>exact ⟨(tame_leaf (n+r) k_value [d] _ (by simp) (by simp)).1,ltame_leaf (n+r) k_value [d] _ (by kernel_rfl)⟩
    | ref x=>exact ⟨(tame_leaf (n+r) k_refuse [.str x] _ (by simp) (by simp)).1,ltame_leaf (n+r) k_refuse [.str x] _ (by kernel_rfl)⟩
    | nam x=>exact ⟨tame_nam (n+r) x kn,ltame_nam (n+r) x kn⟩
    | odd b=>cases h
    | iff ps=>exact ⟨(tame_leaf (n+r) k_if (encs ps) _ (by simp) (by simp)).1,ltame_no (n+r) k_if (encs ps) _ (by kernel_rfl) (by simp) (by simp)⟩
    | call f ps=>exact ⟨(tame_leaf (n+r) k_call [.str f,.tuple (encs ps)] _ (by simp) (by simp)).1,ltame_no (n+r) k_call [.str f,.tuple (encs ps)] _ (by kernel_rfl) (by simp) (by simp)⟩
    | doo op ps=>
      obtain ⟨h1,h2,h3⟩:=isb_doo h
      cases ps with
      | nil=>exact ⟨tame_do0 (n+r) op kn (take1 h2),ltame_do0 (n+r) op kn (take1 h2)⟩
      | cons p ps=>
        obtain ⟨g1,g2⟩:=tame_both n kn r p (all_mem h3 List.mem_cons_self)
        exact ⟨tame_do (n+r) op (enc p) (encs ps) kn _ g1,ltame_do (n+r) op (enc p) (encs ps) kn _ g2⟩
end Lq
end
section
namespace Lq
open PySem Mv
mutual
noncomputable def tmT (kn:List Str) :T→Bool
  | .val _=>true
  | .ref _=>true
  | .nam x=>memS x kn
  | .doo op ps=>memS op tame3&&tmH kn ps
  | _=>false
noncomputable def tmH (kn:List Str) :List T→Bool
  | p::_=>tmT kn p
  | []=>false
end
theorem tm_T {ns:List Str} {cs:List (Str×Nat)} (kn:List Str) :∀(r:Nat) (t:T),isb ns cs r t=true→tm kn r t=tmT kn t
  | 0=>@fun t h=>by cases h
  | r+1=>@fun t h=>by
    cases t with
    | val d=>rfl
    | ref x=>rfl
    | nam x=>rfl
    | odd b=>cases h
    | iff ps=>rfl
    | call f ps=>rfl
    | doo op ps=>
      obtain ⟨h1,h2,h3⟩:=isb_doo h
      cases ps with
      | nil=>show false=(memS op tame3&&false); rw [Bool.and_false]
      | cons p ps=>show (memS op tame3&&tm kn r p)=(memS op tame3&&tmT kn p); rw [tm_T kn r p (all_mem h3 List.mem_cons_self)]
theorem is_tame_eq {ns:List Str} {cs:List (Str×Nat)} (n:Nat) (kn:List Str) (r:Nat) (t:T) (h:isb ns cs r t=true) :cF P (n+r) false 1 [.fz (enc t),sN kn]=okb (tmT kn t):=by rw [← tm_T kn r t h]; exact (tame_both n kn r t h).1
theorem l_tame_eq {ns:List Str} {cs:List (Str×Nat)} (n:Nat) (kn:List Str) (r:Nat) (t:T) (h:isb ns cs r t=true) :cF P (n+r) false 29 [.fz (enc t),sN kn]=okb (tmT kn t):=by rw [← tm_T kn r t h]; exact (tame_both n kn r t h).2
noncomputable abbrev Sg:=List (Str×List Bool)
noncomputable abbrev encB (l:List Bool) :D:=.tuple (l.map .bool)
noncomputable abbrev encS (ss:Sg) :D:=.dict (ss.map fun p=>(.str p.1,encB p.2))
noncomputable def flg (ss:Sg) (f:Str) :Option (List Bool):=(ss.find? fun p=>decide (p.1=f)).map (·.2)
theorem dget_flg (f:Str) :∀ss:Sg,dgetL (ss.map fun p=>(PyData.str p.1,encB p.2)) f=(flg ss f).map encB
  | []=>rfl
  | p::ss=>by
    show (if p.1=f then some (encB p.2) else dgetL _ f)=_
    unfold flg
    rw [List.find?_cons]
    by_cases q:p.1=f
    · rw [if_pos q,decide_eq_true q]; rfl
    · rw [if_neg q,decide_eq_false q]; exact dget_flg f ss
noncomputable def zok (kn:List Str) :List Bool→List T→Bool
  | b::bs,p::ps=>(!(b && !tmT kn p))&&zok kn bs ps
  | _,_=>true
mutual
noncomputable def kpT (ss:Sg) (kn:List Str) :T→Bool
  | .iff ps=>kpA ss kn ps
  | .doo _ ps=>kpA ss kn ps
  | .call f ps=>kpC ss kn ((flg ss f).getD []) ps
  | _=>true
noncomputable def kpA (ss:Sg) (kn:List Str) :List T→Bool
  | []=>true
  | p::ps=>kpT ss kn p&&kpA ss kn ps
noncomputable def kpC (ss:Sg) (kn:List Str) :List Bool→List T→Bool
  | b::bs,p::ps=>!(b && !tmT kn p)&&(kpT ss kn p&&kpC ss kn bs ps)
  | _,_=>true
end
inductive Lp (c:Cfg) (fr:Mv.Fm) (t:Tgt) (b:List St) (tmp:List Nat) (items:List D) (a0 a1 a2 a3:Slot) (ok:Bool) :Prop
  | yes:ok=true→forB c fr t b tmp items=some (.ok .next,[a0,a1,a2,a3,.no])→Lp c fr t b tmp items a0 a1 a2 a3 ok
  | no (s:Slot) :ok=false→forB c fr t b tmp items=some (.ok (.ret (.fz (.bool false))),[a0,a1,a2,a3,s])→Lp c fr t b tmp items a0 a1 a2 a3 ok
noncomputable abbrev kB:List St:=[.iff (.and [(.cmp .eq (.idx (.var 0) (.lit (.int 0))) (.lit (S [99,97,108,108]))),(.idx (.idx (.var 2) (.idx (.var 0) (.lit (.int 1)))) (.var 4)),(.not (.call 29 [(.idx (.var 3) (.var 4)),(.var 1)]))]) [.ret (.lit (.bool false))] [],
      .iff (.not (.call 30 [(.idx (.var 3) (.var 4)),(.var 1),(.var 2)])) [.ret (.lit (.bool false))] []]
noncomputable def KpAt (ss:Sg) (kn:List Str) (m:Nat) (t:T) :Prop:=cF P m false 30 [.fz (enc t),sN kn,.fz (encS ss)]=okb (kpT ss kn t)
theorem idx_at (pre:List D) (d:D) (l:List D) :idxOf (pre++d::l) (0+(pre.length:Int))=some d:=by
  unfold idxOf
  rw [if_pos (by exact (lin [pre.length] [] 1 (.le (.c 0) (.a (.c 0) (.n (.v 0)))) [] rfl)),show (0+(pre.length:Int)).toNat=pre.length from by exact (Nat.le_antisymm (lin [((0:Int)+(↑pre.length:Int)).toNat,pre.length] [] 1 (.nle (.v 0) (.v 1)) [(1,.eq (.n (.v 0)) (.a (.c 0) (.n (.v 1))))] rfl (Int.toNat_of_nonneg (a:=(0:Int)+(↑pre.length:Int)) (lin [pre.length] [] 1 (.le (.c 0) (.a (.c 0) (.n (.v 0)))) [] rfl))) (lin [pre.length,((0:Int)+(↑pre.length:Int)).toNat] [] 1 (.nle (.v 0) (.v 1)) [(-1,.eq (.n (.v 1)) (.a (.c 0) (.n (.v 0))))] rfl (Int.toNat_of_nonneg (a:=(0:Int)+(↑pre.length:Int)) (lin [pre.length] [] 1 (.le (.c 0) (.a (.c 0) (.n (.v 0)))) [] rfl))))]
  simp
theorem k_loop (ss:Sg) (kn:List Str) (m:Nat) (x:Str) (ds:List D) (hx:(x=k_call)=False) :∀(ts:List T) (pre:List D) (s4:Slot),(∀u∈ts,KpAt ss kn m u)→
    Lp ⟨P.glob,cF P m,[],false⟩ [.fz (.tuple (.str x::ds)),sN kn,.fz (encS ss),.fz (.tuple (pre++encs ts)),s4] (.one 4) kB [4] ((List.range' pre.length ts.length).map fun (k:Nat)=>.int (0+k)) (.fz (.tuple (.str x::ds))) (sN kn) (.fz (encS ss)) (.fz (.tuple (pre++encs ts))) (kpA ss kn ts)
  | []=>@fun pre s4 J=>.yes rfl (by show forB _ _ _ _ _ []=_; rw [forB_nil]; rfl)
  | u::ts=>@fun pre s4 hF=>by
    have hu:=hF u List.mem_cons_self
    have hi:idxOf (pre++encs (u::ts)) (0+(pre.length:Int))=some (enc u):=by rw [encs]; exact idx_at pre (enc u) (encs ts)
    have ih:=k_loop ss kn m x ds hx ts (pre++[enc u]) (.fz (.int (0+(pre.length:Int)))) (fun v hv=>hF v (List.mem_cons_of_mem _ hv))
    rw [List.append_assoc,show [enc u]++encs ts=encs (u::ts) from rfl,List.length_append,show pre.length+[enc u].length=pre.length+1 from rfl] at ih
    unfold KpAt at hu
    rw [show (u::ts).length=ts.length+1 from rfl,List.range'_succ,List.map_cons,show kpA ss kn (u::ts)=(kpT ss kn u&&kpA ss kn ts) from rfl]
    cases q:kpT ss kn u with
    | false=>
      rw [q] at hu
      refine .no (.fz (.int (0+(pre.length:Int)))) rfl ?_
      exact wkL [.b 1 (show cmpD Cm.eq (PyData.str x) (PyData.str {cps:=#[(99:Nat),(97:Nat),(108:Nat),(108:Nat)]})=some false by simp only [c_eqS,hx,decide_false]),.d 2 (hi),.c 0 (hu)] rfl (by kernel_rfl)
    | true=>
      rw [q] at hu
      rw [Bool.true_and]
      cases ih with
      | yes e ih=>refine .yes e ?_; exact wkL [.b 1 (show cmpD Cm.eq (PyData.str x) (PyData.str {cps:=#[(99:Nat),(97:Nat),(108:Nat),(108:Nat)]})=some false by simp only [c_eqS,hx,decide_false]),.d 2 (hi),.c 0 (hu),.lp 2 (ih)] rfl (by kernel_rfl)
      | no s e ih=>refine .no s e ?_; exact wkL [.b 1 (show cmpD Cm.eq (PyData.str x) (PyData.str {cps:=#[(99:Nat),(97:Nat),(108:Nat),(108:Nat)]})=some false by simp only [c_eqS,hx,decide_false]),.d 2 (hi),.c 0 (hu),.lp 2 (ih)] rfl (by kernel_rfl)
end Lq
end
section
namespace Lq
open PySem Mv
theorem idx_bool (pre:List Bool) (b:Bool) (l:List Bool) (k:Nat) (h:k=pre.length) :idxOf ((pre++b::l).map PyData.bool) (0+(k:Int))=some (.bool b):=by
  subst h
  rw [List.map_append,List.map_cons,show ((pre.length:Nat) :Int)=(((pre.map PyData.bool).length:Nat) :Int) from by rw [List.length_map]]
  exact idx_at _ _ _
theorem kc_loop (ss:Sg) (kn:List Str) (m:Nat) (f:Str) (ds:List D) (all:List Bool) (hf:dgetL (ss.map fun p=>(PyData.str p.1,encB p.2)) f=some (encB all)) :∀(ts:List T) (pre:List D) (fp fl:List Bool) (s4:Slot),all=fp++fl→fp.length=pre.length→fl.length=ts.length→(∀u∈ts,KpAt ss kn m u)→(∀u∈ts,cF P m false 29 [.fz (enc u),sN kn]=okb (tmT kn u))→
    Lp ⟨P.glob,cF P m,[],false⟩ [.fz (.tuple (.str k_call :: .str f::ds)),sN kn,.fz (encS ss),.fz (.tuple (pre++encs ts)),s4] (.one 4) kB [4] ((List.range' pre.length ts.length).map fun (k:Nat)=>.int (0+k)) (.fz (.tuple (.str k_call :: .str f::ds))) (sN kn) (.fz (encS ss)) (.fz (.tuple (pre++encs ts))) (kpC ss kn fl ts)
  | []=>@fun pre fp fl s4 J U hl j2_ j3_=>by
    cases fl with
    | nil=>exact .yes rfl (by show forB _ _ _ _ _ []=_; rw [forB_nil]; rfl)
    | cons=>cases hl
  | u::ts=>@fun pre fp fl s4 ha hp hl hF hT=>by
    cases fl with
    | nil=>cases hl
    | cons b fl=>
    have hu:=hF u List.mem_cons_self
    have ht:=hT u List.mem_cons_self
    have hi:idxOf (pre++encs (u::ts)) (0+(pre.length:Int))=some (enc u):=by rw [encs]; exact idx_at pre (enc u) (encs ts)
    have hb:idxOf (all.map PyData.bool) (0+(pre.length:Int))=some (.bool b):=by rw [ha]; exact idx_bool fp b fl _ hp.symm
    have ih:=kc_loop ss kn m f ds all hf ts (pre++[enc u]) (fp++[b]) fl (.fz (.int (0+(pre.length:Int)))) (by rw [ha,List.append_assoc]; rfl) (by rw [List.length_append,List.length_append,hp]; rfl) (Nat.succ.inj hl) (fun v hv=>hF v (List.mem_cons_of_mem _ hv)) (fun v hv=>hT v (List.mem_cons_of_mem _ hv))
    rw [List.append_assoc,show [enc u]++encs ts=encs (u::ts) from rfl,List.length_append,show pre.length+[enc u].length=pre.length+1 from rfl] at ih
    unfold KpAt at hu
    rw [show (u::ts).length=ts.length+1 from rfl,List.range'_succ,List.map_cons,show kpC ss kn (b::fl) (u::ts)=(!(b && !tmT kn u)&&(kpT ss kn u&&kpC ss kn fl ts)) from rfl]
    cases b with
    | true=>
      cases qt:tmT kn u with
      | false=>
        rw [qt] at ht
        refine .no (.fz (.int (0+(pre.length:Int)))) rfl ?_
        exact wkL [.d 4 (hf),.d 0 (hb),.d 1 (hi),.c 0 (ht)] rfl (by kernel_rfl)
      | true=>
        rw [qt] at ht
        cases q:kpT ss kn u with
        | false=>
          rw [q] at hu
          refine .no (.fz (.int (0+(pre.length:Int)))) rfl ?_
          exact wkL [.d 4 (hf),.d 0 (hb),.d 1 (hi),.c 0 (ht),.d 2 (hi),.c 0 (hu)] rfl (by kernel_rfl)
        | true=>
          rw [q] at hu
          cases ih with
          | yes e ih=>refine .yes e ?_; exact wkL [.d 4 (hf),.d 0 (hb),.d 1 (hi),.c 0 (ht),.d 2 (hi),.c 0 (hu),.lp 2 (ih)] rfl (by kernel_rfl)
          | no s e ih=>refine .no s e ?_; exact wkL [.d 4 (hf),.d 0 (hb),.d 1 (hi),.c 0 (ht),.d 2 (hi),.c 0 (hu),.lp 2 (ih)] rfl (by kernel_rfl)
    | false=>
      cases q:kpT ss kn u with
      | false=>
        rw [q] at hu
        refine .no (.fz (.int (0+(pre.length:Int)))) rfl ?_
        exact wkL [.d 4 (hf),.d 0 (hb),.d 2 (hi),.c 0 (hu)] rfl (by kernel_rfl)
      | true=>
        rw [q] at hu
        cases ih with
        | yes e ih=>refine .yes e ?_; exact wkL [.d 4 (hf),.d 0 (hb),.d 2 (hi),.c 0 (hu),.lp 2 (ih)] rfl (by kernel_rfl)
        | no s e ih=>refine .no s e ?_; exact wkL [.d 4 (hf),.d 0 (hb),.d 2 (hi),.c 0 (hu),.lp 2 (ih)] rfl (by kernel_rfl)
end Lq
end
section
namespace Lq
open PySem Mv
noncomputable def SgOk (ss:Sg) (cs:List (Str×Nat)) :Prop:= ∀f k,cnt cs f=some k→ ∃fl:List Bool,flg ss f=some fl∧fl.length=k
theorem kp_leaf (n:Nat) (x:Str) (ds:List D) (kn S:D) (hm:memS x [k_value,k_name,k_refuse]=true) :cF P (n+1) false 30 [.fz (.tuple (.str x::ds)),.fz kn,.fz S]=okb true:=by
  have hd:=(in_vnr x).trans (congrArg some hm)
  exact wkF [.b 1 (hd)] rfl (by kernel_rfl)
theorem if2:∀(ps:List T),ps.length=3→ ∃d,idxOf (PyData.str k_if::encs ps) 2=some d
  | [a,b,c],_=>⟨enc b,by rw [encs,encs,encs,encs]; rfl⟩
theorem kp_if (ss:Sg) (kn:List Str) (m:Nat) (ps:List T) (hl:ps.length=3) (hF:∀u∈ps,KpAt ss kn m u) :KpAt ss kn (m+1) (.iff ps):=by
  have hd:=(in_vnr k_if).trans (congrArg some m_i)
  have hs:=slc_rest (.str k_if) (encs ps)
  have lp:=k_loop ss kn m k_if (encs ps) (by simp) ps [] .no hF
  have hr:=range_ok ps.length (by exact (lin [ps.length] [] 1 (.nle (.v 0) (.c 1000)) [(1,.neq (.v 0) (.c 3))] rfl hl))
  have hn:(((encs ps).length:Nat) :Int)=((ps.length:Nat) :Int):=by rw [encs_len]
  obtain ⟨d2,h2⟩:=if2 ps hl
  rw [List.nil_append,show ([] :List D).length=0 from rfl,← List.range_eq_range'] at lp
  unfold KpAt
  rw [enc]
  cases lp with
  | yes e lp=>rw [show kpT ss kn (.iff ps)=kpA ss kn ps from rfl,e]; exact wkF [.d 3 (h2),.v 3 (hs),.l 1 (show iterD Itk.range [PyData.int (↑(encs ps).length:Int)]=some (List.map (fun (k:Nat)=>PyData.int ((0:Int)+(↑k:Int))) (List.range ps.length)) by simp only [hn,it_range,Int.reduceNeg,hr]),.lp 0 (lp)] rfl (by kernel_rfl)
  | no s e lp=>rw [show kpT ss kn (.iff ps)=kpA ss kn ps from rfl,e]; exact wkF [.d 3 (h2),.v 3 (hs),.l 1 (show iterD Itk.range [PyData.int (↑(encs ps).length:Int)]=some (List.map (fun (k:Nat)=>PyData.int ((0:Int)+(↑k:Int))) (List.range ps.length)) by simp only [hn,it_range,Int.reduceNeg,hr]),.lp 0 (lp)] rfl (by kernel_rfl)
theorem kp_do (ss:Sg) (kn:List Str) (m:Nat) (op:Str) (ps:List T) (hl:ps.length≤1000) (hF:∀u∈ps,KpAt ss kn m u) :KpAt ss kn (m+1) (.doo op ps):=by
  have hd:=(in_vnr k_do).trans (congrArg some m_d)
  have lp:=k_loop ss kn m k_do [.str op,.tuple (encs ps)] (by simp) ps [] .no hF
  have hr:=range_ok ps.length hl
  have hn:(((encs ps).length:Nat) :Int)=((ps.length:Nat) :Int):=by rw [encs_len]
  have hi:(k_do=k_if)=False:=by simp
  rw [List.nil_append,show ([] :List D).length=0 from rfl,← List.range_eq_range'] at lp
  unfold KpAt
  rw [enc]
  cases lp with
  | yes e lp=>rw [show kpT ss kn (.doo op ps)=kpA ss kn ps from rfl,e]; exact wkF [.l 8 (show iterD Itk.range [PyData.int (↑(encs ps).length:Int)]=some (List.map (fun (k:Nat)=>PyData.int ((0:Int)+(↑k:Int))) (List.range ps.length)) by simp only [hn,it_range,Int.reduceNeg,hr]),.lp 0 (lp)] rfl (by kernel_rfl)
  | no s e lp=>rw [show kpT ss kn (.doo op ps)=kpA ss kn ps from rfl,e]; exact wkF [.l 8 (show iterD Itk.range [PyData.int (↑(encs ps).length:Int)]=some (List.map (fun (k:Nat)=>PyData.int ((0:Int)+(↑k:Int))) (List.range ps.length)) by simp only [hn,it_range,Int.reduceNeg,hr]),.lp 0 (lp)] rfl (by kernel_rfl)
theorem kp_call (ss:Sg) (kn:List Str) (m:Nat) (f:Str) (ps:List T) (fl:List Bool) (hl:ps.length≤1000) (hf:flg ss f=some fl) (hfl:fl.length=ps.length) (hF:∀u∈ps,KpAt ss kn m u) (hT:∀u∈ps,cF P m false 29 [.fz (enc u),sN kn]=okb (tmT kn u)) :KpAt ss kn (m+1) (.call f ps):=by
  have hd:=(in_vnr k_call).trans (congrArg some m_c)
  have lp:=kc_loop ss kn m f [.tuple (encs ps)] fl ((dget_flg f ss).trans (by rw [hf]; rfl)) ps [] [] fl .no rfl rfl hfl hF hT
  have hr:=range_ok ps.length hl
  have hn:(((encs ps).length:Nat) :Int)=((ps.length:Nat) :Int):=by rw [encs_len]
  have hi:(k_call=k_if)=False:=by simp
  rw [List.nil_append,show ([] :List D).length=0 from rfl,← List.range_eq_range'] at lp
  have hk:kpT ss kn (.call f ps)=kpC ss kn fl ps:=by show kpC ss kn ((flg ss f).getD []) ps=_; rw [hf]; rfl
  unfold KpAt
  rw [enc,hk]
  cases lp with
  | yes e lp=>rw [e]; exact wkF [.l 8 (show iterD Itk.range [PyData.int (↑(encs ps).length:Int)]=some (List.map (fun (k:Nat)=>PyData.int ((0:Int)+(↑k:Int))) (List.range ps.length)) by simp only [hn,it_range,Int.reduceNeg,hr]),.lp 0 (lp)] rfl (by kernel_rfl)
  | no s e lp=>rw [e]; exact wkF [.l 8 (show iterD Itk.range [PyData.int (↑(encs ps).length:Int)]=some (List.map (fun (k:Nat)=>PyData.int ((0:Int)+(↑k:Int))) (List.range ps.length)) by simp only [hn,it_range,Int.reduceNeg,hr]),.lp 0 (lp)] rfl (by kernel_rfl)
theorem kept_eq {ns:List Str} {cs:List (Str×Nat)} (hc:∀f k,cnt cs f=some k→k≤8) (ss:Sg) (hS:SgOk ss cs) (n:Nat) (kn:List Str) :∀(r:Nat) (t:T),isb ns cs r t=true→KpAt ss kn (n+r) t
  | 0=>@fun t h=>by cases h
  | r+1=>@fun t h=>by
    have go:∀ts:List T,ts.all (isb ns cs r)=true→ ∀u∈ts,KpAt ss kn (n+r) u:=fun ts h1 u hu=>kept_eq hc ss hS n kn r u (all_mem h1 hu)
    cases t with
    | val d=>exact kp_leaf (n+r) k_value [d] _ _ m_v
    | nam x=>exact kp_leaf (n+r) k_name [.str x] _ _ m_n
    | ref x=>exact kp_leaf (n+r) k_refuse [.str x] _ _ m_r
    | odd b=>cases h
    | iff ps=>exact kp_if ss kn (n+r) ps (isb_iff h).1 (go ps (isb_iff h).2)
    | doo op ps=>exact kp_do ss kn (n+r) op ps (by have:=ar8 (isb_doo h).2.1; exact (lin [ps.length] [] 1 (.nle (.v 0) (.c 1000)) [(1,.nle (.v 0) (.c 8))] rfl this)) (go ps (isb_doo h).2.2)
    | call f ps=>
      obtain ⟨h1,h2⟩:=isb_call h
      obtain ⟨fl,g1,g2⟩:=hS f _ h1
      exact kp_call ss kn (n+r) f ps fl (by have:=hc f _ h1; exact (lin [ps.length] [] 1 (.nle (.v 0) (.c 1000)) [(1,.nle (.v 0) (.c 8))] rfl this)) g1 g2 (go ps h2) fun u hu=>l_tame_eq n kn r u (all_mem h2 hu)
end Lq
end
section
namespace Lq
open PySem Mv
noncomputable def knOf:List Str→List Bool→List Str
  | x::xs,b::bs=>if b then x::knOf xs bs else knOf xs bs
  | _,_=>[]
noncomputable abbrev kcC (m:Nat) :Cfg:=⟨P.glob,cF P m,[],false⟩
theorem kn_comp (m:Nat) (a0 a1 a2 a3 a4 a5 a6 a7 a8:Slot) :∀(xs:List Str) (bs:List Bool) (s9 s10:Slot),compB (kcC m) [a0,a1,a2,a3,a4,a5,a6,a7,a8,s9,s10] (.var 9) (.tup [9,10]) [(.var 10)] (zipL (xs.map .str) (bs.map .bool))=some (.ok ((knOf xs bs).map .str),[a0,a1,a2,a3,a4,a5,a6,a7,a8,.no,.no])
  | [],bs=>@fun s9 s10=>by show compB _ _ _ _ _ []=_; rw [compB_nil]; rfl
  | x::xs,[]=>@fun s9 s10=>by show compB _ _ _ _ _ []=_; rw [compB_nil]; rfl
  | x::xs,b::bs=>@fun s9 s10=>by
    have ih:=kn_comp m a0 a1 a2 a3 a4 a5 a6 a7 a8 xs bs (.fz (.str x)) (.fz (.bool b))
    show compB _ _ _ _ _ (.tuple [.str x,.bool b]::zipL (xs.map .str) (bs.map .bool))=_
    cases b with
    | true=>rw [show knOf (x::xs) (true::bs)=x::knOf xs bs from rfl,List.map_cons]; exact wkC [.cp 1 (ih)] rfl (by kernel_rfl)
    | false=>rw [show knOf (x::xs) (false::bs)=knOf xs bs from rfl]; exact wkC [.cp 1 (ih)] rfl (by kernel_rfl)
noncomputable abbrev knS (kn:List Str) (s:Slot) :Prop:=s=sN kn∨s = .own (.list (kn.map .str))
inductive Lz (m:Nat) (fr:Mv.Fm) (t:Tgt) (b:List St) (tmp:List Nat) (items:List D) (kn:List Str) (a0 a1 a2 a3 a4 a6 a9 a10:Slot) (ok:Bool) :Prop
  | yes (s5:Slot) :ok=true→knS kn s5→forB (kcC m) fr t b tmp items=some (.ok .next,[a0,a1,a2,a3,a4,s5,a6,.no,.no,a9,a10])→Lz m fr t b tmp items kn a0 a1 a2 a3 a4 a6 a9 a10 ok
  | no (fr':Mv.Fm) :ok=false→forB (kcC m) fr t b tmp items=some (.ok (.ret (.fz (.bool false))),fr')→Lz m fr t b tmp items kn a0 a1 a2 a3 a4 a6 a9 a10 ok
noncomputable abbrev zB:List St:=[.iff (.and [(.var 8),(.not (.call 1 [(.var 7),(.var 5)]))]) [.ret (.lit (.bool false))] []]
theorem z_loop (m:Nat) (kn:List Str) (a0 a1 a2 a3 a4 a6 a9 a10:Slot) :∀(ps:List T) (bs:List Bool) (s5 s7 s8:Slot),knS kn s5→(∀u∈ps,cF P m false 1 [.fz (enc u),sN kn]=okb (tmT kn u))→
    Lz m [a0,a1,a2,a3,a4,s5,a6,s7,s8,a9,a10] (.tup [7,8]) zB [7,8] (zipL (encs ps) (bs.map .bool)) kn a0 a1 a2 a3 a4 a6 a9 a10 (zok kn bs ps)
  | [],bs=>@fun s5 s7 s8 h5 J=>.yes s5 (by cases bs <;> rfl) h5 (by show forB _ _ _ _ _ []=_; rw [forB_nil]; rfl)
  | u::ps,[]=>@fun s5 s7 s8 h5 J=>.yes s5 rfl h5 (by show forB _ _ _ _ _ []=_; rw [forB_nil]; rfl)
  | u::ps,b::bs=>@fun s5 s7 s8 h5 hT=>by
    have ht:=hT u List.mem_cons_self
    have hT':∀v∈ps,cF P m false 1 [.fz (enc v),sN kn]=okb (tmT kn v):=fun v hv=>hT v (List.mem_cons_of_mem _ hv)
    rw [show zipL (encs (u::ps)) ((b::bs).map PyData.bool) = .tuple [enc u,.bool b]::zipL (encs ps) (bs.map .bool) from rfl,show zok kn (b::bs) (u::ps)=(!(b && !tmT kn u)&&zok kn bs ps) from rfl]
    cases b with
    | false=>
      have ih:=z_loop m kn a0 a1 a2 a3 a4 a6 a9 a10 ps bs s5 (.fz (enc u)) (.fz (.bool false)) h5 hT'
      rw [show (!(false && !tmT kn u)&&zok kn bs ps)=zok kn bs ps from rfl]
      cases ih with
      | yes s e h ih=>refine .yes s e h ?_; exact wkL [.lp 2 (ih)] rfl (by kernel_rfl)
      | no fr e ih=>refine .no fr e ?_; exact wkL [.lp 2 (ih)] rfl (by kernel_rfl)
    | true=>
      have ih:=z_loop m kn a0 a1 a2 a3 a4 a6 a9 a10 ps bs (sN kn) (.fz (enc u)) (.fz (.bool true)) (.inl rfl) hT'
      cases qt:tmT kn u with
      | false=>
        rw [qt] at ht
        refine .no [a0,a1,a2,a3,a4,sN kn,a6,.fz (enc u),.fz (.bool true),a9,a10] rfl ?_
        rcases h5 with rfl | rfl <;> exact wkL [.c 1 (ht)] rfl (by kernel_rfl)
      | true=>
        rw [qt] at ht
        rw [show (!(true && !true)&&zok kn bs ps)=zok kn bs ps from rfl]
        cases ih with
        | yes s e h ih=>refine .yes s e h ?_; rcases h5 with rfl | rfl <;> exact wkL [.c 1 (ht),.lp 2 (ih)] rfl (by kernel_rfl)
        | no fr e ih=>refine .no fr e ?_; rcases h5 with rfl | rfl <;> exact wkL [.c 1 (ht),.lp 2 (ih)] rfl (by kernel_rfl)
end Lq
end
section
namespace Lq
open PySem Mv
noncomputable def cok (ss:Sg) (kn:List Str) :T→Bool
  | .call f ps=>zok kn ((flg ss f).getD []) ps
  | _=>true
inductive CIn (ss:Sg) (kn:List Str) (m:Nat) :T→Prop
  | mk (f:Str) (ps:List T) (fl:List Bool) :flg ss f=some fl→(∀u∈ps,cF P m false 1 [.fz (enc u),sN kn]=okb (tmT kn u))→CIn ss kn m (.call f ps)
noncomputable abbrev cB:List St:=[.for_ (.tup [7,8]) .zip [(.idx (.var 6) (.lit (.int 2))),(.idx (.var 1) (.idx (.var 6) (.lit (.int 1))))] zB [7,8]]
theorem c_loop (m:Nat) (ss:Sg) (kn:List Str) (a0 a2 a3 a4 a9 a10:Slot) :∀(cl:List T) (s5 s6 s7 s8:Slot),knS kn s5→(∀c∈cl,CIn ss kn m c)→
    Lz m [a0,.fz (encS ss),a2,a3,a4,s5,s6,s7,s8,a9,a10] (.one 6) cB [6,7,8] (encs cl) kn a0 (.fz (encS ss)) a2 a3 a4 .no a9 a10 (cl.all (cok ss kn))
  | []=>@fun s5 s6 s7 s8 h5 J=>.yes s5 rfl h5 (by rw [encs,forB_nil]; rfl)
  | c::cl=>@fun s5 s6 s7 s8 h5 hC=>by
    have hc:=hC c List.mem_cons_self
    have hC':∀v∈cl,CIn ss kn m v:=fun v hv=>hC v (List.mem_cons_of_mem _ hv)
    cases hc with
    | mk f ps fl hf hT=>
    have z:=z_loop m kn a0 (.fz (encS ss)) a2 a3 a4 (.fz (enc (.call f ps))) a9 a10 ps fl s5 .no .no h5 hT
    have hg:dgetL (ss.map fun p=>(PyData.str p.1,encB p.2)) f=some (encB fl):=(dget_flg f ss).trans (by rw [hf]; rfl)
    have hk:cok ss kn (.call f ps)=zok kn fl ps:=by show zok kn ((flg ss f).getD []) ps=_; rw [hf]; rfl
    rw [List.all_cons,hk,encs]
    rw [enc] at z ⊢
    cases z with
    | no fr e z=>rw [e]; refine .no fr rfl ?_; exact wkL [.d 2 (hg),.lp 1 (z)] rfl (by kernel_rfl)
    | yes s5' e h z=>
      have ih:=c_loop m ss kn a0 a2 a3 a4 a9 a10 cl s5' (.fz (.tuple [.str k_call,.str f,.tuple (encs ps)])) .no .no h hC'
      rw [e,Bool.true_and]
      cases ih with
      | yes s e h ih=>refine .yes s e h ?_; exact wkL [.d 2 (hg),.lp 1 (z),.lp 0 (ih)] rfl (by kernel_rfl)
      | no fr e ih=>refine .no fr e ?_; exact wkL [.d 2 (hg),.lp 1 (z),.lp 0 (ih)] rfl (by kernel_rfl)
end Lq
end
section
namespace Lq
open PySem Mv
noncomputable def flOf (ss:Sg) (f:Fun) :List Bool:=(flg ss f.1).getD []
noncomputable def fok (ss:Sg) (f:Fun) :Bool:=(cin f.2.2).all (cok ss (knOf f.2.1 (flOf ss f)))
inductive FIn (ss:Sg) (m:Nat) (f:Fun) :Prop
  | mk (fl:List Bool) :flg ss f.1=some fl→CiAt m f.2.2→(∀c∈cin f.2.2,CIn ss (knOf f.2.1 fl) m c)→FIn ss m f
inductive Lk (m:Nat) (fr:Mv.Fm) (t:Tgt) (b:List St) (tmp:List Nat) (items:List D) (a0 a1:Slot) (ok:Bool) :Prop
  | yes:ok=true→forB (kcC m) fr t b tmp items=some (.ok .next,[a0,a1,.no,.no,.no,.no,.no,.no,.no,.no,.no])→Lk m fr t b tmp items a0 a1 ok
  | no (fr':Mv.Fm) :ok=false→forB (kcC m) fr t b tmp items=some (.ok (.ret (.fz (.bool false))),fr')→Lk m fr t b tmp items a0 a1 ok
noncomputable abbrev oB:List St:=[.asg (.one 5) (.comp (.var 9) (.tup [9,10]) .zip [(.var 3),(.idx (.var 1) (.var 2))] [(.var 10)]),.for_ (.one 6) .seq [(.call 0 [(.var 4)])] cB [6,7,8]]
theorem o_loop (m:Nat) (ss:Sg) (a0:Slot) :∀(fs:List Fun) (s2 s3 s4 s5 s6 s7 s8:Slot),(∀f∈fs,FIn ss m f)→
    Lk m [a0,.fz (encS ss),s2,s3,s4,s5,s6,s7,s8,.no,.no] (.tup [2,3,4]) oB [2,3,4,5,6,7,8] (fs.map encF) a0 (.fz (encS ss)) (fs.all (fok ss))
  | []=>@fun s2 s3 s4 s5 s6 s7 s8 J=>.yes rfl (by rw [List.map_nil,forB_nil]; rfl)
  | (nm,ps,t)::fs=>@fun s2 s3 s4 s5 s6 s7 s8 hF=>by
    obtain ⟨fl,hf,⟨r,hci,hr⟩,hC⟩:=hF _ List.mem_cons_self
    have hF':∀v∈fs,FIn ss m v:=fun v hv=>hF v (List.mem_cons_of_mem _ hv)
    have hg:dgetL (ss.map fun p=>(PyData.str p.1,encB p.2)) nm=some (encB fl):=(dget_flg nm ss).trans (by rw [hf]; rfl)
    have kc:=kn_comp m a0 (.fz (encS ss)) (.fz (.str nm)) (.fz (encN ps)) (.fz (enc t)) .no .no .no .no ps fl .no .no
    have cl:=c_loop m ss (knOf ps fl) a0 (.fz (.str nm)) (.fz (encN ps)) (.fz (enc t)) .no .no (cin t) (.own (.list ((knOf ps fl).map .str))) .no .no .no (.inr rfl) hC
    have hk:fok ss (nm,ps,t)=(cin t).all (cok ss (knOf ps fl)):=by unfold fok flOf; rw [hf]; rfl
    rw [List.all_cons,hk,List.map_cons]
    cases cl with
    | no fr e cl=>rw [e]; refine .no fr rfl ?_; rcases hr with rfl | rfl <;> exact wkL [.d 0 (hg),.cp 1 (kc),.c 0 (hci),.lp 1 (cl)] rfl (by kernel_rfl)
    | yes s5' e h cl=>
      have ih:=o_loop m ss a0 fs (.fz (.str nm)) (.fz (encN ps)) (.fz (enc t)) s5' .no .no .no hF'
      rw [e,Bool.true_and]
      cases ih with
      | yes e ih=>refine .yes e ?_; rcases hr with rfl | rfl <;> exact wkL [.d 0 (hg),.cp 1 (kc),.c 0 (hci),.lp 1 (cl),.lp 0 (ih)] rfl (by kernel_rfl)
      | no fr e ih=>refine .no fr e ?_; rcases hr with rfl | rfl <;> exact wkL [.d 0 (hg),.cp 1 (kc),.c 0 (hci),.lp 1 (cl),.lp 0 (ih)] rfl (by kernel_rfl)
theorem keeps_eq (m:Nat) (ss:Sg) (fs:List Fun) (h:∀f∈fs,FIn ss m f) :cF P (m+1) false 2 [.fz (encP fs),.fz (encS ss)]=okb (fs.all (fok ss)):=by
  have lp:=o_loop m ss (.fz (encP fs)) fs .no .no .no .no .no .no .no h
  cases lp with
  | yes e lp=>rw [e]; exact wkF [.lp 1 (lp)] rfl (by kernel_rfl)
  | no fr e lp=>rw [e]; exact wkF [.lp 1 (lp)] rfl (by kernel_rfl)
end Lq
end
section
namespace Lq
open PySem Mv
theorem kpC_eq (ss:Sg) (kn:List Str) :∀(fl:List Bool) (ps:List T),fl.length=ps.length→kpC ss kn fl ps=(zok kn fl ps&&kpA ss kn ps)
  | [],[],_=>rfl
  | b::bs,p::ps,h=>by
    show (!(b && !tmT kn p)&&(kpT ss kn p&&kpC ss kn bs ps))=((!(b && !tmT kn p)&&zok kn bs ps)&&(kpT ss kn p&&kpA ss kn ps))
    rw [kpC_eq ss kn bs ps (Nat.succ.inj h)]
    cases (!(b && !tmT kn p)) <;> cases kpT ss kn p <;> cases zok kn bs ps <;> rfl
  | [],_::_,h=>by cases h
  | _::_,[],h=>by cases h
theorem kpA_eq (ss:Sg) (kn:List Str) :∀(ps:List T),(∀u∈ps,kpT ss kn u=(cin u).all (cok ss kn))→kpA ss kn ps=(cins ps).all (cok ss kn)
  | [],_=>rfl
  | p::ps,h=>by
    show (kpT ss kn p&&kpA ss kn ps)=(cin p++cins ps).all (cok ss kn)
    rw [List.all_append,h p List.mem_cons_self,kpA_eq ss kn ps fun u hu=>h u (List.mem_cons_of_mem _ hu)]
theorem kp_cin {ns:List Str} {cs:List (Str×Nat)} (ss:Sg) (hS:SgOk ss cs) (kn:List Str) :∀(r:Nat) (t:T),isb ns cs r t=true→kpT ss kn t=(cin t).all (cok ss kn)
  | 0,t,h=>by cases h
  | r+1,t,h=>by
    cases t with
    | val d=>rfl
    | nam x=>rfl
    | ref x=>rfl
    | odd b=>rfl
    | iff ps=>exact kpA_eq ss kn ps fun u hu=>kp_cin ss hS kn r u (all_mem (isb_iff h).2 hu)
    | doo op ps=>exact kpA_eq ss kn ps fun u hu=>kp_cin ss hS kn r u (all_mem (isb_doo h).2.2 hu)
    | call f ps=>
      obtain ⟨h1,h2⟩:=isb_call h
      obtain ⟨fl,g1,g2⟩:=hS f _ h1
      have e:=kpA_eq ss kn ps fun u hu=>kp_cin ss hS kn r u (all_mem h2 hu)
      show kpC ss kn ((flg ss f).getD []) ps=(cins ps++[T.call f ps]).all (cok ss kn)
      rw [g1,show (some fl).getD []=fl from rfl,kpC_eq ss kn fl ps g2,e,List.all_append,Bool.and_comm]
      congr 1
      show zok kn fl ps=(zok kn ((flg ss f).getD []) ps&&true)
      rw [g1,Bool.and_true]; rfl
theorem mem_cins:∀ {ps:List T} {c:T},c∈cins ps→ ∃u∈ps,c∈cin u
  | [],c,h=>by cases h
  | p::ps,c,h=>by
    rcases List.mem_append.mp (show c∈cin p++cins ps from h) with h | h
    · exact ⟨p,List.mem_cons_self,h⟩
    · obtain ⟨u,hu,hc⟩:=mem_cins h; exact ⟨u,List.mem_cons_of_mem _ hu,hc⟩
theorem cin_in {ns:List Str} {cs:List (Str×Nat)} (ss:Sg) (hS:SgOk ss cs) (kn:List Str) (m:Nat) :∀(r:Nat) (t:T),isb ns cs r t=true→r≤m→ ∀c∈cin t,CIn ss kn m c
  | 0,t,h,_=>by cases h
  | r+1,t,h,hm=>by
    have go:∀ps:List T,ps.all (isb ns cs r)=true→ ∀c∈cins ps,CIn ss kn m c:=fun ps hp c hc=>by
      obtain ⟨u,hu,hc⟩:=mem_cins hc
      exact cin_in ss hS kn m r u (all_mem hp hu) (by exact (lin [r,m] [] 1 (.nle (.v 0) (.v 1)) [(1,.nle (.a (.v 0) (.c 1)) (.v 1))] rfl hm)) c hc
    intro c hc
    cases t with
    | val d=>cases hc
    | nam x=>cases hc
    | ref x=>cases hc
    | odd b=>cases hc
    | iff ps=>exact go ps (isb_iff h).2 c hc
    | doo op ps=>exact go ps (isb_doo h).2.2 c hc
    | call f ps=>
      obtain ⟨h1,h2⟩:=isb_call h
      obtain ⟨fl,g1,g2⟩:=hS f _ h1
      rcases List.mem_append.mp (show c∈cins ps++[T.call f ps] from hc) with hc | hc
      · exact go ps h2 c hc
      · rw [List.mem_singleton.mp hc]
        refine .mk f ps fl g1 fun u hu=>?_
        have:=is_tame_eq (m - r) kn r u (all_mem h2 hu)
        rwa [Nat.sub_add_cancel (by exact (lin [r,m] [] 1 (.nle (.v 0) (.v 1)) [(1,.nle (.a (.v 0) (.c 1)) (.v 1))] rfl hm))] at this
theorem idx_strs (pre:List Str) (x:Str) (l:List Str) :idxOf ((pre++x::l).map PyData.str) (0+(pre.length:Int))=some (.str x):=by
  rw [List.map_append,List.map_cons,show ((pre.length:Nat) :Int)=(((pre.map PyData.str).length:Nat) :Int) from by rw [List.length_map]]
  exact idx_at _ _ _
theorem d_comp (m:Nat) (ss:Sg) (a0:Slot) (nm:Str) (P':List Str) (all:List Bool) (a4 a5:Slot) (hg:dgetL (ss.map fun p=>(PyData.str p.1,encB p.2)) nm=some (encB all)) :∀(xs pre:List Str) (fp fl:List Bool) (s6:Slot),P'=pre++xs→all=fp++fl→fp.length=pre.length→fl.length=xs.length→
    compB (kcC m) [a0,.fz (encS ss),.fz (.str nm),.fz (encN P'),a4,a5,s6] (.idx (.var 3) (.var 6)) (.one 6) [(.idx (.idx (.var 1) (.var 2)) (.var 6))] ((List.range' pre.length xs.length).map fun (k:Nat)=>.int (0+k))=some (.ok ((knOf xs fl).map .str),[a0,.fz (encS ss),.fz (.str nm),.fz (encN P'),a4,a5,.no])
  | [],pre,fp,fl,s6,_,_,_,_=>by show compB _ _ _ _ _ []=_; rw [compB_nil]; rfl
  | x::xs,pre,fp,fl,s6,hP,ha,hp,hl=>by
    cases fl with
    | nil=>cases hl
    | cons b fl=>
    have hi:idxOf (P'.map PyData.str) (0+(pre.length:Int))=some (.str x):=by rw [hP]; exact idx_strs pre x xs
    have hb:idxOf (all.map PyData.bool) (0+(pre.length:Int))=some (.bool b):=by rw [ha]; exact idx_bool fp b fl _ hp.symm
    have ih:=d_comp m ss a0 nm P' all a4 a5 hg xs (pre++[x]) (fp++[b]) fl (.fz (.int (0+(pre.length:Int)))) (by rw [hP,List.append_assoc]; rfl) (by rw [ha,List.append_assoc]; rfl) (by rw [List.length_append,List.length_append,hp]; rfl) (Nat.succ.inj hl)
    rw [List.length_append,show pre.length+[x].length=pre.length+1 from rfl] at ih
    rw [show (x::xs).length=xs.length+1 from rfl,List.range'_succ,List.map_cons]
    cases b with
    | true=>rw [show knOf (x::xs) (true::fl)=x::knOf xs fl from rfl,List.map_cons]; exact wkC [.d 0 (hg),.d 0 (hb),.d 1 (hi),.cp 0 (ih)] rfl (by kernel_rfl)
    | false=>rw [show knOf (x::xs) (false::fl)=knOf xs fl from rfl]; exact wkC [.d 0 (hg),.d 0 (hb),.cp 1 (ih)] rfl (by kernel_rfl)
inductive Ld (m:Nat) (fr:Mv.Fm) (t:Tgt) (b:List St) (tmp:List Nat) (items:List D) (a0 a1:Slot) (ok:Bool) :Prop
  | yes:ok=true→forB (kcC m) fr t b tmp items=some (.ok .next,[a0,a1,.no,.no,.no,.no,.no])→Ld m fr t b tmp items a0 a1 ok
  | no (fr':Mv.Fm) :ok=false→forB (kcC m) fr t b tmp items=some (.ok (.ret (.fz (.bool false))),fr')→Ld m fr t b tmp items a0 a1 ok
noncomputable abbrev dB:List St:=[.asg (.one 5) (.comp (.idx (.var 3) (.var 6)) (.one 6) .range [(.bi .len [(.var 3)])] [(.idx (.idx (.var 1) (.var 2)) (.var 6))]),
      .iff (.not (.call 30 [(.var 4),(.var 5),(.var 1)])) [.ret (.lit (.bool false))] []]
inductive DIn (ss:Sg) (m:Nat) (f:Fun) :Prop
  | mk (fl:List Bool) :flg ss f.1=some fl→fl.length=f.2.1.length→f.2.1.length≤1000→KpAt ss (knOf f.2.1 fl) m f.2.2→DIn ss m f
noncomputable def dok (ss:Sg) (f:Fun) :Bool:=kpT ss (knOf f.2.1 (flOf ss f)) f.2.2
theorem d_loop (m:Nat) (ss:Sg) (a0:Slot) :∀(fs:List Fun) (s2 s3 s4 s5:Slot),(∀f∈fs,DIn ss m f)→
    Ld m [a0,.fz (encS ss),s2,s3,s4,s5,.no] (.tup [2,3,4]) dB [2,3,4,5] (fs.map encF) a0 (.fz (encS ss)) (fs.all (dok ss))
  | [],s2,s3,s4,s5,_=>.yes rfl (by rw [List.map_nil,forB_nil]; rfl)
  | (nm,ps,t)::fs,s2,s3,s4,s5,hF=>by
    obtain ⟨fl,hf,hl,hp,hk⟩:=hF _ List.mem_cons_self
    have hF':∀v∈fs,DIn ss m v:=fun v hv=>hF v (List.mem_cons_of_mem _ hv)
    have hg:dgetL (ss.map fun p=>(PyData.str p.1,encB p.2)) nm=some (encB fl):=(dget_flg nm ss).trans (by rw [hf]; rfl)
    have kc:=d_comp m ss a0 nm ps fl (.fz (enc t)) .no hg ps [] [] fl .no rfl rfl rfl hl
    rw [show ([] :List Str).length=0 from rfl,← List.range_eq_range'] at kc
    have hr:=range_ok ps.length hp
    have hn:(((ps.map PyData.str).length:Nat) :Int)=((ps.length:Nat) :Int):=by rw [List.length_map]
    have hd:dok ss (nm,ps,t)=kpT ss (knOf ps fl) t:=by unfold dok flOf; rw [hf]; rfl
    have hk:cF P m false 30 [.fz (enc t),sN (knOf ps fl),.fz (encS ss)]=okb (kpT ss (knOf ps fl) t):=hk
    rw [List.all_cons,hd,List.map_cons]
    cases q:kpT ss (knOf ps fl) t with
    | false=>
      rw [q] at hk
      refine .no [a0,.fz (encS ss),.fz (.str nm),.fz (encN ps),.fz (enc t),sN (knOf ps fl),.no] rfl ?_
      exact wkL [.l 1 (show iterD Itk.range [PyData.int (↑(List.map PyData.str (nm,ps,t).snd.fst).length:Int)]=some (List.map (fun (k:Nat)=>PyData.int ((0:Int)+(↑k:Int))) (List.range ps.length)) by simp only [hn,it_range,Int.reduceNeg,hr]),.cp 0 (kc),.c 0 (hk)] rfl (by kernel_rfl)
    | true=>
      rw [q] at hk
      have ih:=d_loop m ss a0 fs (.fz (.str nm)) (.fz (encN ps)) (.fz (enc t)) (sN (knOf ps fl)) hF'
      rw [Bool.true_and]
      cases ih with
      | yes e ih=>refine .yes e ?_; exact wkL [.l 1 (show iterD Itk.range [PyData.int (↑(List.map PyData.str (nm,ps,t).snd.fst).length:Int)]=some (List.map (fun (k:Nat)=>PyData.int ((0:Int)+(↑k:Int))) (List.range ps.length)) by simp only [hn,it_range,Int.reduceNeg,hr]),.cp 0 (kc),.c 0 (hk),.lp 2 (ih)] rfl (by kernel_rfl)
      | no fr e ih=>refine .no fr e ?_; exact wkL [.l 1 (show iterD Itk.range [PyData.int (↑(List.map PyData.str (nm,ps,t).snd.fst).length:Int)]=some (List.map (fun (k:Nat)=>PyData.int ((0:Int)+(↑k:Int))) (List.range ps.length)) by simp only [hn,it_range,Int.reduceNeg,hr]),.cp 0 (kc),.c 0 (hk),.lp 2 (ih)] rfl (by kernel_rfl)
theorem due_eq (m:Nat) (ss:Sg) (fs:List Fun) (h:∀f∈fs,DIn ss m f) :cF P (m+1) false 31 [.fz (encP fs),.fz (encS ss)]=okb (fs.all (dok ss)):=by
  have lp:=d_loop m ss (.fz (encP fs)) fs .no .no .no .no h
  cases lp with
  | yes e lp=>rw [e]; exact wkF [.lp 1 (lp)] rfl (by kernel_rfl)
  | no fr e lp=>rw [e]; exact wkF [.lp 1 (lp)] rfl (by kernel_rfl)
end Lq
end
section
namespace Lq
open PySem Mv
noncomputable def sgOf (hs:List Hd) :Sg:=hs.map fun h=>(h.nm,h.wn)
theorem dget_none (x:Str) :∀(ss:Sg),x∉ss.map (·.1)→dgetL (ss.map fun p=>(PyData.str p.1,encB p.2)) x=none
  | []=>@fun J=>rfl
  | p::ss=>@fun h=>by
    show (if p.1=x then some (encB p.2) else dgetL _ x)=none
    rw [if_neg (fun q=>h (by rw [← q]; exact List.mem_cons_self))]
    exact dget_none x ss fun q=>h (List.mem_cons_of_mem _ q)
theorem dset_sg (x:Str) (l:List Bool) (ss:Sg) (h:x∉ss.map (·.1)) :dsetL (ss.map fun p=>(PyData.str p.1,encB p.2)) x (encB l)=(ss++[(x,l)]).map fun p=>(PyData.str p.1,encB p.2):=by
  unfold dsetL
  rw [dget_none x ss h,List.map_append]; rfl
theorem dof_sg:∀(rest done:Sg),((done++rest).map (·.1)).Nodup→dofL (done.map fun p=>(PyData.str p.1,encB p.2)) (rest.map fun p=>PyData.tuple [.str p.1,encB p.2])=some ((done++rest).map fun p=>(PyData.str p.1,encB p.2))
  | []=>@fun done J=>by rw [List.append_nil]; rfl
  | p::rest=>@fun done nd=>by
    have hx:p.1∉done.map (·.1):=fun q=>by
      rw [List.map_append,List.map_cons,List.nodup_append] at nd
      exact nd.2.2 _ q _ List.mem_cons_self rfl
    show dofL (dsetL (done.map fun p=>(PyData.str p.1,encB p.2)) p.1 (encB p.2)) _=_
    rw [dset_sg p.1 p.2 done hx,dof_sg rest (done++[p]) (by rw [List.append_assoc]; exact nd),List.append_assoc]; rfl
theorem so_comp (m:Nat) (a0:Slot) :∀(hs:List Hd) (s1:Slot),compB (kcC m) [a0,s1] (.tup [(.idx (.var 1) (.lit (.int 0))),(.idx (.var 1) (.lit (.int 2)))]) (.one 1) [] (hs.map encH)=some (.ok ((sgOf hs).map fun p=>PyData.tuple [.str p.1,encB p.2]),[a0,.no])
  | []=>@fun s1=>by show compB _ _ _ _ _ []=_; rw [compB_nil]; rfl
  | h::hs=>@fun s1=>by
    have ih:=so_comp m a0 hs (.fz (encH h))
    rw [List.map_cons,show sgOf (h::hs)=(h.nm,h.wn)::sgOf hs from rfl,List.map_cons]
    exact wkC [.cp 2 (ih)] rfl (by kernel_rfl)
theorem sorting_eq (m:Nat) (hs:List Hd) (nd:(hs.map (·.nm)).Nodup) (hl:hs.length≤1000) :cF P (m+1) false 28 [sH hs]=some (.ok (.own (encS (sgOf hs))),[]):=by
  have hc:=so_comp m (sH hs) hs .no
  have hd:=dof_sg (sgOf hs) [] (by rw [List.nil_append]; unfold sgOf; rw [List.map_map]; exact nd)
  have hb:biD .dict [.list ((sgOf hs).map fun p=>PyData.tuple [.str p.1,encB p.2])]=some (.own (encS (sgOf hs))):=by
    show (if _ then (dofL [] _).map _ else none)=_
    rw [if_pos (by rw [List.length_map]; unfold sgOf; rw [List.length_map]; exact hl)]
    rw [List.nil_append] at hd
    rw [show ([] :List (D×D))=([] :Sg).map (fun p=>(PyData.str p.1,encB p.2)) from rfl,hd]; rfl
  exact wkF [.cp 1 (hc),.v 0 (hb)] rfl (by kernel_rfl)
end Lq
end
section
namespace Lq
open PySem Mv
theorem each_sure_ok (n:Nat) :cF P (n+12) false 35 []=okb true:=by kernel_rfl
noncomputable abbrev k_zp:Str:=⟨[122,112].toArray⟩
noncomputable abbrev k_zq:Str:=⟨[122,113].toArray⟩
noncomputable abbrev zN:List Str:=[k_zp,k_zq]
inductive FD (cs:List (Str×Nat)) (k:Nat) (d:D) :Prop
  | mk (t:T) :d=enc t→Fit zN cs k t→FD cs k d
theorem FD.up {cs:List (Str×Nat)} {k l:Nat} {d:D} (h:FD cs k d) (hl:k≤l) :FD cs l d:=let ⟨t,e,f⟩:=h; ⟨t,e,f.mono hl⟩
theorem FD.one {cs:List (Str×Nat)} {k:Nat} {d:D} {w:Str} (hw:(isOp w&&takesB w 1)=true) (h:FD cs k d) :FD cs (k+1) (.tuple [.str k_do,.str w,.tuple [d]]):=by
  obtain ⟨t,rfl,f⟩:=h
  rw [Bool.and_eq_true] at hw
  exact ⟨.doo w [t],rfl,one_d hw.1 hw.2 f⟩
noncomputable abbrev argW:List Str:=[k_first,k_rest,k_down,k_empty,k_list,k_first,k_rest,k_down]
noncomputable abbrev argV:List Str:=[k_first,k_rest,k_down,k_empty]
theorem argW_ok:argW.all (fun w=>isOp w&&takesB w 1)=true:=by kernel_rfl
theorem argV_ok:argV.all (fun w=>isOp w&&takesB w 1)=true:=by kernel_rfl
theorem str_idx {l:List Str} {r:Int} (h0:0≤r) (h1:r<l.length) :Ex12 (fun w=>idxOf (l.map PyData.str) r=some (.str w)) (fun w=>w∈l):=by
  obtain ⟨d,hd,hm⟩:=idx_mem (xs:=l.map PyData.str) h0 (by rw [List.length_map]; exact h1)
  obtain ⟨w,hw,rfl⟩:=List.mem_map.mp hm
  exact ⟨w,hd,hw⟩
theorem last7 {cs:List (Str×Nat)} {x:Str} {d5:D} {r:Int} (mx:x∈zN) (f5:FD cs 3 d5) (h0:0≤r) (h1:r<7) :Ex12 (fun d=>idxOf [d5,d5,enc (.nam x),enc (.val (.int 3)),enc (.ref ⟨[78,111,68,111,119,110].toArray⟩),enc (.doo k_plus [.nam x,.val (.int 1)]),enc (.iff [.nam x,.nam x,.nam x])] r=some d) (fun d=>FD cs 4 d):=by
  obtain ⟨d,hd,hm⟩:=idx_mem (xs:=[d5,d5,enc (.nam x),enc (.val (.int 3)),enc (.ref ⟨[78,111,68,111,119,110].toArray⟩),enc (.doo k_plus [.nam x,.val (.int 1)]),enc (.iff [.nam x,.nam x,.nam x])]) h0 h1
  refine ⟨d,hd,?_⟩
  have fx:Fit zN cs 1 (.nam x):=Fit.nam mx
  simp only [List.mem_cons,List.not_mem_nil,or_false] at hm
  rcases hm with rfl | rfl | rfl | rfl | rfl | rfl | rfl
  · exact f5.up (by decide)
  · exact f5.up (by decide)
  · exact ⟨_,rfl,fx.mono (by decide)⟩
  · exact ⟨_,rfl,(Fit.val (vlB_ok (by kernel_rfl))).mono (by decide)⟩
  · exact ⟨_,rfl,(Fit.ref (memS_iff.mp (by kernel_rfl))).mono (by decide)⟩
  · refine ⟨_,rfl,(Fit.doo (d:=1) (by kernel_rfl) (by kernel_rfl) fun t ht=>?_).mono (by decide)⟩
    simp only [List.mem_cons,List.not_mem_nil,or_false] at ht
    rcases ht with rfl | rfl
    · exact fx
    · exact Fit.val (vlB_ok (by kernel_rfl))
  · refine ⟨_,rfl,(Fit.iff (d:=1) rfl fun t ht=>?_).mono (by decide)⟩
    simp only [List.mem_cons,List.not_mem_nil,or_false] at ht
    rcases ht with rfl | rfl | rfl <;> exact fx
theorem arg_eq (cs:List (Str×Nat)) (n:Nat) (c:Int) :Ex12 (fun d=>cF P (n+1) false 33 [.fz (.int c)]=some (.ok (.fz d),[])) (fun d=>FD cs 4 d):=by
  obtain ⟨x,hx,mx⟩:=str_idx (l:=zN) (fm c 2 (by decide)).1 (fm c 2 (by decide)).2
  have q:=fm (c.fdiv 2) 8 (by decide)
  obtain ⟨w,hw,mw⟩:=str_idx (l:=argW) q.1 q.2
  have fx:FD cs 1 (enc (.nam x)):=⟨_,rfl,Fit.nam mx⟩
  have q4:=fm ((c.fdiv 2).fdiv 672) 4 (by decide)
  obtain ⟨d4,h4,m4⟩:=idx_mem (xs:=[enc (.nam x),enc (.nam x),enc (.val (.tuple [.int 1,.tuple [.int 2]])),enc (.ref ⟨[78,111,76,105,115,116].toArray⟩)]) q4.1 q4.2
  have f4:FD cs 1 d4:=by
    simp only [List.mem_cons,List.not_mem_nil,or_false] at m4
    rcases m4 with rfl | rfl | rfl | rfl
    · exact fx
    · exact fx
    · exact ⟨_,rfl,Fit.val (vlB_ok (by kernel_rfl))⟩
    · exact ⟨_,rfl,Fit.ref (memS_iff.mp (by kernel_rfl))⟩
  have f5:=f4.one (List.all_eq_true.mp argW_ok w mw)
  have q7:=fm ((c.fdiv 2).fdiv 96) 7 (by decide)
  rw [enc,enc,enc] at h4
  by_cases q3:((c.fdiv 2).fdiv 8).fmod 3=1
  · have qv:=fm ((c.fdiv 2).fdiv 24) 4 (by decide)
    obtain ⟨v,hv,mv⟩:=str_idx (l:=argV) qv.1 qv.2
    have f6:=f5.one (List.all_eq_true.mp argV_ok v mv)
    obtain ⟨d7,h7,f7⟩:=last7 (cs:=cs) mx f6 q7.1 q7.2
    refine ⟨d7,?_,f7⟩
    rw [enc,enc,enc,enc,enc,encs,encs,encs,encs,encs,encs,encs,enc,enc] at h7
    exact wkF [.d 1 (hx),.d 2 (hw),.d 2 (h4),.b 2 (show cmpD Cm.eq (PyData.int (((c.fdiv (2:Int)).fdiv (8:Int)).fmod (3:Int))) (PyData.int (1:Int))=some true by simp only [c_eqI,eq_true q3,decide_true]),.d 3 (hv),.d 2 (h7)] rfl (by kernel_rfl)
  · obtain ⟨d7,h7,f7⟩:=last7 (cs:=cs) mx (f5.up (by decide:2≤3)) q7.1 q7.2
    refine ⟨d7,?_,f7⟩
    rw [enc,enc,enc,enc,enc,encs,encs,encs,encs,encs,encs,encs,enc,enc] at h7
    exact wkF [.d 1 (hx),.d 2 (hw),.d 2 (h4),.b 2 (show cmpD Cm.eq (PyData.int (((c.fdiv (2:Int)).fdiv (8:Int)).fmod (3:Int))) (PyData.int (1:Int))=some false by simp only [c_eqI,eq_false q3,decide_false]),.d 3 (h7)] rfl (by kernel_rfl)
end Lq
end
section
namespace Lq
open PySem Mv
theorem a_comp (cs:List (Str×Nat)) (m:Nat) (xs:List Int) (a1 a2 a3 a4:Slot) :∀(ks:List Nat) (s5:Slot),Ex13 (fun ts=>compB (kcC (m+1)) [.fz (.list (xs.map .int)),a1,a2,a3,a4,s5] (.call 33 [(.call 15 [(.var 0),(.op2 .add (.lit (.int 22)) (.var 5))])]) (.one 5) [] (ks.map fun (k:Nat)=>.int (0+k))=some (.ok (encs ts),[.fz (.list (xs.map .int)),a1,a2,a3,a4,.no])) (fun ts=>ts.length=ks.length) (fun ts=> ∀t∈ts,Fit zN cs 4 t)
  | []=>@fun s5=>⟨[],by show compB _ _ _ _ _ []=_; rw [compB_nil]; rfl,rfl,fun J h=>by cases h⟩
  | k::ks=>@fun s5=>by
    obtain ⟨c,hc⟩:=cell m xs (22+(0+(k:Int))) (by exact (lin [k] [] 1 (.le (.c 0) (.a (.c 22) (.a (.c 0) (.n (.v 0))))) [] rfl))
    obtain ⟨d,hd,t,rfl,ft⟩:=arg_eq cs m c
    obtain ⟨ts,ih,hl,hf⟩:=a_comp cs m xs a1 a2 a3 a4 ks (.fz (.int (0+(k:Int))))
    refine ⟨t::ts,?_,congrArg (· + 1) hl,fun u hu=>?_⟩
    · rw [List.map_cons,encs]
      exact wkC [.c 1 (hc),.c 0 (hd),.cp 0 (ih)] rfl (by kernel_rfl)
    · rcases List.mem_cons.mp hu with rfl | hu
      · exact ft
      · exact hf u hu
noncomputable abbrev k_zz:Str:=⟨[122,122].toArray⟩
theorem more_eq {cs:List (Str×Nat)} {hs:List Hd} (hh:HOk cs hs) (m:Nat) (xs:List Int) :Ex12 (fun t=>cF P (m+2) false 34 [.fz (.list (xs.map .int)),sH hs]=some (.ok (.fz (encF (k_zz,zN,t))),[])) (fun t=>Fit zN cs 8 t):=by
  obtain ⟨c,hc⟩:=cell m xs 21 (by decide)
  have hp:(0:Int)<(hs.length:Nat):=by
    have:=hh.ne
    cases hs with
    | nil=>exact absurd rfl this
    | cons=>rw [List.length_cons]; omega
  obtain ⟨d,hi,hm⟩:=idx_mem (xs:=hs.map encH) (fm c _ hp).1 (by rw [List.length_map]; exact (fm c _ hp).2)
  obtain ⟨h,hmem,rfl⟩:=List.mem_map.mp hm
  have hle:=hh.le h hmem
  have hct:=hh.ct h hmem
  obtain ⟨ts,lp,hl,hf⟩:=a_comp cs m xs (sH hs) (.fz (encH h)) .no .no (List.range h.ps.length) .no
  rw [List.length_range] at hl
  have hr:=range_ok h.ps.length (by exact (lin [h.ps.length] [] 1 (.nle (.v 0) (.c 1000)) [(1,.nle (.v 0) (.c 6))] rfl hle))
  have hn:(((hs.map encH).length:Nat) :Int)=((hs.length:Nat) :Int):=by rw [List.length_map]
  have hn1:(((h.ps.map PyData.str).length:Nat) :Int)=((h.ps.length:Nat) :Int):=by rw [List.length_map]
  have hz:(((hs.length:Nat) :Int)=0)=False:=eq_false fun e=>by rw [e] at hp; exact absurd hp (by decide)
  have fc:Fit zN cs 5 (.call h.nm ts):=Fit.call (d:=4) (by rw [hct,hl]) hf
  by_cases q:(c.fdiv 4).fmod 2=1
  · refine ⟨.iff [.nam k_zp,.val (.int 0),.doo k_list [.val (.int 1),.val (.int 2),.call h.nm ts]],?_,?_⟩
    · rw [encF,enc,encs,encs,encs,encs,enc,enc,enc,encs,encs,encs,encs,enc,enc,enc]
      exact wkF [.c 0 (hc),.v 1 (show op2 Op2.mod (PyData.int c) (PyData.int (↑(List.map encH hs).length:Int))=some (Rv.fz (PyData.int (c.fmod (↑hs.length:Int)))) by simp only [hn,o_mod,hz,if_false]),.d 0 (hi),.l 2 (show iterD Itk.range [PyData.int (↑(List.map PyData.str h.ps).length:Int)]=some (List.map (fun (k:Nat)=>PyData.int ((0:Int)+(↑k:Int))) (List.range h.ps.length)) by simp only [hn1,it_range,Int.reduceNeg,hr]),.cp 0 (lp),.c 2 (hc),.b 2 (show cmpD Cm.eq (PyData.int ((c.fdiv (4:Int)).fmod (2:Int))) (PyData.int (1:Int))=some true by simp only [c_eqI,eq_true q,decide_true])] rfl (by kernel_rfl)
    · refine (Fit.iff (d:=6) rfl fun t ht=>?_).mono (by decide)
      simp only [List.mem_cons,List.not_mem_nil,or_false] at ht
      rcases ht with rfl | rfl | rfl
      · exact (Fit.nam List.mem_cons_self).mono (by decide)
      · exact (Fit.val (vlB_ok (by kernel_rfl))).mono (by decide)
      · refine Fit.doo (d:=5) (by kernel_rfl) (by kernel_rfl) fun t ht=>?_
        simp only [List.mem_cons,List.not_mem_nil,or_false] at ht
        rcases ht with rfl | rfl | rfl
        · exact (Fit.val (vlB_ok (by kernel_rfl))).mono (by decide)
        · exact (Fit.val (vlB_ok (by kernel_rfl))).mono (by decide)
        · exact fc
  · refine ⟨.call h.nm ts,?_,fc.mono (by decide)⟩
    rw [encF,enc]
    exact wkF [.c 0 (hc),.v 1 (show op2 Op2.mod (PyData.int c) (PyData.int (↑(List.map encH hs).length:Int))=some (Rv.fz (PyData.int (c.fmod (↑hs.length:Int)))) by simp only [hn,o_mod,hz,if_false]),.d 0 (hi),.l 2 (show iterD Itk.range [PyData.int (↑(List.map PyData.str h.ps).length:Int)]=some (List.map (fun (k:Nat)=>PyData.int ((0:Int)+(↑k:Int))) (List.range h.ps.length)) by simp only [hn1,it_range,Int.reduceNeg,hr]),.cp 0 (lp),.c 2 (hc),.b 2 (show cmpD Cm.eq (PyData.int ((c.fdiv (4:Int)).fmod (2:Int))) (PyData.int (1:Int))=some false by simp only [c_eqI,eq_false q,decide_false])] rfl (by kernel_rfl)
end Lq
end
section
namespace Lq
open PySem Mv
theorem worked_no (m:Nat) (a b k:D) (h:cF P m false 2 [.fz a,.fz b]=okb false) :cF P (m+1) false 12 [.fz a,.fz b,.fz k]=some (.error x_NotKept,[]):=by
  show finF [.fz a,.fz b,.fz k] (exSs ⟨P.glob,cF P m,pinsOf 0 [.fz a,.fz b,.fz k],false⟩ f_worked.body [.fz a,.fz b,.fz k,.no,.no,.no,.no,.no])=_
  simp only [f_worked,exSs_cons,exS_iff,ev_not,ev_call,evs_cons,evs_nil,ev_var,List.getElem?_cons_zero,List.getElem?_cons_succ,bnd_ok,callO,argSlots,roots,List.nodup_nil,if_true,h,okb,rvV,rvD,copyOut,Slot.lent,Bool.false_eq_true,if_false,tD,Bool.not_false,exS_raise,bnd_err,finF_err,outsOf,pinsOf]
theorem left_no (m:Nat) (a b k:D) (h:cF P m false 2 [.fz a,.fz b]=okb false) :cF P (m+2) false 13 [.fz a,.fz b,.fz k]=some (.error x_NotKept,[]):=by
  have hw:=worked_no m a b k h
  show finF [.fz a,.fz b,.fz k] (exSs ⟨P.glob,cF P (m+1),pinsOf 0 [.fz a,.fz b,.fz k],false⟩ f_left_over.body [.fz a,.fz b,.fz k])=_
  simp only [f_left_over,exSs_cons,exS_ret,ev_idx,ev_call,evs_cons,evs_nil,ev_var,List.getElem?_cons_zero,List.getElem?_cons_succ,bnd_ok,callO,argSlots,roots,List.nodup_nil,if_true,hw,copyOut,Slot.lent,Bool.false_eq_true,if_false,bnd_err,finF_err,outsOf,pinsOf]
theorem cases_no (m:Nat) (a b k:D) (h:cF P m false 2 [.fz a,.fz b]=okb false) :cF P (m+2) false 14 [.fz a,.fz b,.fz k]=some (.error x_NotKept,[]):=by
  have hw:=worked_no m a b k h
  show finF [.fz a,.fz b,.fz k] (exSs ⟨P.glob,cF P (m+1),pinsOf 0 [.fz a,.fz b,.fz k],false⟩ f_cases.body [.fz a,.fz b,.fz k])=_
  simp only [f_cases,exSs_cons,exS_ret,ev_idx,ev_call,evs_cons,evs_nil,ev_var,List.getElem?_cons_zero,List.getElem?_cons_succ,bnd_ok,callO,argSlots,roots,List.nodup_nil,if_true,hw,copyOut,Slot.lent,Bool.false_eq_true,if_false,bnd_err,finF_err,outsOf,pinsOf]
end Lq
end
section
namespace Lq
open PySem Mv
noncomputable abbrev allX:List Str:=[x_HalfError,x_NoNumber,x_NoList,x_NoFirst,x_NoDown,x_ByNought,x_TooGreat,x_TooLong,x_NotKept,x_NoText]
noncomputable abbrev hnd:List St:=[.asg (.one 5) (.isx 4 [x_NoNumber,x_NoList,x_NoFirst,x_NoDown,x_ByNought,x_TooGreat,x_TooLong,x_NoText] [x_HalfError,x_NotKept]),
      .ret (.and [(.isx 4 [x_NotKept] [x_HalfError,x_NoNumber,x_NoList,x_NoFirst,x_NoDown,x_ByNought,x_TooGreat,x_TooLong,x_NoText]),(.isx 4 [x_HalfError,x_NoNumber,x_NoList,x_NoFirst,x_NoDown,x_ByNought,x_TooGreat,x_TooLong,x_NotKept,x_NoText] []),(.not (.var 5))])]
theorem hnd_ok (g:Bool→Nat→List Slot→Option (Except Str Rv×List Slot)) (s0 s1 s2 s3:Slot) :exSs ⟨P.glob,g,[],true⟩ hnd [s0,s1,s2,s3,.exc x_NotKept,.no]=some (.ok (.ret (.fz (.bool true))),[s0,s1,s2,s3,.exc x_NotKept,.fz (.bool false)]):=by kernel_rfl
theorem all_has:allX.contains x_NotKept=true:=by kernel_rfl
theorem try_ok (g:Bool→Nat→List Slot→Option (Except Str Rv×List Slot)) (s0 s1 s2 s3:Slot) (body:List St) (h:exSs ⟨P.glob,g,[],false⟩ body [s0,s1,s2,s3,.no,.no]=some (.error x_NotKept,[s0,s1,s2,s3,.no,.no])) :
    exS ⟨P.glob,g,[],false⟩ (.try_ body allX 4 hnd) [s0,s1,s2,s3,.no,.no]=some (.ok (.ret (.fz (.bool true))),[s0,s1,s2,s3,.no,.fz (.bool false)]):=by
  rw [exS_try,if_neg Bool.false_ne_true,h,tryO_err,if_pos ⟨all_has,by simp⟩]
  show tryH 4 (exSs ⟨P.glob,g,[],true⟩ hnd [s0,s1,s2,s3,.exc x_NotKept,.no])=_
  rw [hnd_ok]; rfl
theorem refused_0 (m:Nat) (a b k:D) (h:cF P m false 2 [.fz a,.fz b]=okb false) :cF P (m+3) false 32 [.fz (.int 0),.fz a,.fz b,.fz k]=okb true:=by
  have hw:=left_no m a b k h
  show finF [.fz (.int 0),.fz a,.fz b,.fz k] (exSs ⟨P.glob,cF P (m+2),[],false⟩ f_l_refused.body [.fz (.int 0),.fz a,.fz b,.fz k,.no,.no])=_
  rw [f_l_refused,exSs_cons,try_ok]
  · rfl
  · simp only [exSs_cons,exS_iff,exS_exp,ev_cmp,ev_lit,ev_call,evs_cons,evs_nil,ev_var,List.getElem?_cons_zero,List.getElem?_cons_succ,bnd_ok,callO,argSlots,roots,List.nodup_nil,if_true,hw,copyOut,Slot.lent,Bool.false_eq_true,if_false,bnd_err,rvD,cmpD,eqD,okO,Option.map_some,beq_self_eq_true,tD]
theorem refused_1 (m:Nat) (a b k:D) (h:cF P m false 2 [.fz a,.fz b]=okb false) :cF P (m+3) false 32 [.fz (.int 1),.fz a,.fz b,.fz k]=okb true:=by
  have hw:=cases_no m a b k h
  have e:((1:Int)==0)=false:=rfl
  show finF [.fz (.int 1),.fz a,.fz b,.fz k] (exSs ⟨P.glob,cF P (m+2),[],false⟩ f_l_refused.body [.fz (.int 1),.fz a,.fz b,.fz k,.no,.no])=_
  rw [f_l_refused,exSs_cons,try_ok]
  · rfl
  · simp only [exSs_cons,exS_iff,exS_exp,ev_cmp,ev_lit,ev_call,evs_cons,evs_nil,ev_var,List.getElem?_cons_zero,List.getElem?_cons_succ,bnd_ok,callO,argSlots,roots,List.nodup_nil,if_true,hw,copyOut,Slot.lent,Bool.false_eq_true,if_false,bnd_err,rvD,cmpD,eqD,okO,Option.map_some,e,tD]
end Lq
end
section
namespace Lq
open PySem Mv
noncomputable def sgSet (ss:Sg) (x:Str) (l:List Bool) :Sg:=ss.map fun p=>(p.1,if p.1=x then l else p.2)
noncomputable abbrev encE (p:Str×List Bool) :D×D:=(.str p.1,encB p.2)
theorem dmap_sg (x:Str) (l:List Bool) :∀ss:Sg,dmapL (ss.map encE) x (encB l)=(sgSet ss x l).map encE
  | []=>rfl
  | p::ss=>by
    show (PyData.str p.1,if p.1=x then encB l else encB p.2)::dmapL (ss.map encE) x (encB l)=encE (p.1,if p.1=x then l else p.2)::(sgSet ss x l).map encE
    rw [dmap_sg x l ss]
    by_cases q:p.1=x
    · rw [if_pos q,if_pos q]
    · rw [if_neg q,if_neg q]
theorem dset_old (x:Str) (l fl:List Bool) (ss:Sg) (h:flg ss x=some fl) :dsetL (ss.map encE) x (encB l)=(sgSet ss x l).map encE:=by
  have hg:dgetL (ss.map encE) x=some (encB fl):=(dget_flg x ss).trans (by rw [h]; rfl)
  unfold dsetL
  rw [hg,if_pos (show (some (encB fl)).isSome=true from rfl),dmap_sg]
theorem sgSet_fst (ss:Sg) (x:Str) (l:List Bool) :(sgSet ss x l).map (·.1)=ss.map (·.1):=by
  unfold sgSet; rw [List.map_map]; rfl
theorem flg_set (x:Str) (l:List Bool) (f:Str) :∀ss:Sg,flg (sgSet ss x l) f=if f=x then (flg ss f).map fun J=>l else flg ss f
  | []=>by show none=if f=x then none else none; split <;> rfl
  | p::ss=>by
    have ih:=flg_set x l f ss
    unfold flg sgSet at ih ⊢
    rw [List.map_cons,List.find?_cons,List.find?_cons]
    by_cases q:p.1=f
    · rw [decide_eq_true q]
      subst q
      by_cases q':p.1=x
      · rw [if_pos q',if_pos q'] <;> rfl
      · rw [if_neg q',if_neg q'] <;> rfl
    · rw [decide_eq_false q]; exact ih
theorem flg_app (ss:Sg) (x:Str) (l:List Bool) (f:Str) :flg (ss++[(x,l)]) f=match flg ss f with | some fl=>some fl | none=>if x=f then some l else none:=by
  unfold flg
  rw [List.find?_append]
  cases h:ss.find? fun p=>decide (p.1=f) with
  | some p=>rfl
  | none=>
    show ((([(x,l)] :Sg).find? fun p=>decide (p.1=f)).map (·.2))=_
    rw [List.find?_cons]
    by_cases q:x=f
    · rw [decide_eq_true q]; show some l=if x=f then some l else none; rw [if_pos q]
    · rw [decide_eq_false q]; show none=if x=f then some l else none; rw [if_neg q]
theorem eqv_bools:∀l:List Bool,PyData.eqv (encB l) (encB l)=true:=by
  intro l
  show PyData.eqv (.tuple (l.map .bool)) (.tuple (l.map .bool))=true
  rw [PyData.eqv]
  induction l with
  | nil=>rfl
  | cons b l ih=>rw [List.map_cons,PyData.eqvAll,ih]; cases b <;> rfl
theorem nd_bools:∀l:List Bool,noDicts (l.map .bool)=true
  | []=>rfl
  | b::l=>by rw [List.map_cons,noDicts,nd_bools l]; rfl
theorem dep_bools:∀l:List Bool,PyData.depthAll (l.map .bool)≤1
  | []=>by rw [List.map_nil,PyData.depthAll]; exact Nat.zero_le _
  | b::l=>by
    have:=dep_bools l
    rw [List.map_cons,PyData.depthAll,PyData.depth]
    exact Nat.max_le.mpr ⟨by decide,this⟩
theorem eq_bools (l:List Bool) :eqD (encB l) (encB l)=some true:=by
  have hk:eqOk (encB l) (encB l)=true:=by
    unfold eqOk
    have h1:noDict (encB l)=true:=by rw [noDict]; exact nd_bools l
    have h2:(encB l).depth≤64:=by
      show (PyData.tuple (l.map .bool)).depth≤64
      rw [PyData.depth]
      have:=dep_bools l
      exact (lin [PyData.depthAll (List.map PyData.bool l)] [] 1 (.nle (.a (.v 0) (.c 1)) (.c 64)) [(1,.nle (.v 0) (.c 1))] rfl this)
    rw [h1,Bool.true_and,Bool.true_and,decide_eq_true_eq,Nat.min_self]
    exact h2
  show (if eqOk (encB l) (encB l) then some (PyData.eqv (encB l) (encB l)) else none)=_
  rw [if_pos hk,eqv_bools]
theorem dhits_sub (all:Sg) :∀ss:Sg,(∀p∈ss,flg all p.1=some p.2)→dhits (all.map encE) (ss.map encE)=some true
  | []=>@fun J=>rfl
  | p::ss=>@fun h=>by
    have hg:dgetL (all.map encE) p.1=some (encB p.2):=(dget_flg p.1 all).trans (by rw [h p List.mem_cons_self]; rfl)
    have ih:=dhits_sub all ss fun q hq=>h q (List.mem_cons_of_mem _ hq)
    show (match dgetL (all.map encE) p.1 with | none=>some false | some y=>match eqD (encB p.2) y,dhits (all.map encE) (ss.map encE) with | some e,some t=>some (e&&t) | _,_=>none)=_
    rw [hg]
    show (match eqD (encB p.2) (encB p.2),dhits (all.map encE) (ss.map encE) with | some e,some t=>some (e&&t) | _,_=>none)=_
    rw [eq_bools,ih]; rfl
theorem flg_self:∀ {ss:Sg},(ss.map (·.1)).Nodup→ ∀p∈ss,flg ss p.1=some p.2
  | []=>@fun J p h=>by cases h
  | q::ss=>@fun nd p h=>by
    rw [List.map_cons,List.nodup_cons] at nd
    unfold flg
    rw [List.find?_cons]
    rcases List.mem_cons.mp h with rfl | h
    · rw [decide_eq_true rfl]; rfl
    · rw [decide_eq_false fun e=>nd.1 (by rw [e]; exact List.mem_map_of_mem h)]
      exact flg_self nd.2 p h
theorem same_dict (ss:Sg) (nd:(ss.map (·.1)).Nodup) :cmpD .ned (encS ss) (encS ss)=some false:=by
  have h:=dhits_sub ss ss (flg_self nd)
  show ((if (ss.map encE).length=(ss.map encE).length then dhits (ss.map encE) (ss.map encE) else some false).map (!·))=_
  rw [if_pos rfl,h]; rfl
end Lq
end
section
namespace Lq
open PySem Mv
noncomputable abbrev two6:List D:=[.int 1,.int 2,.int 4,.int 8,.int 16,.int 32]
theorem two_at:∀j:Nat,j<6→Ex13 (fun v=>idxOf two6 (0+(j:Int))=some (.int v)) (fun v:Int=>v≠0) (fun v=>v.natAbs<2 ^ 64)
  | 0=>@fun J=>⟨1,rfl,by decide,by decide⟩
  | 1=>@fun J=>⟨2,rfl,by decide,by decide⟩
  | 2=>@fun J=>⟨4,rfl,by decide,by decide⟩
  | 3=>@fun J=>⟨8,rfl,by decide,by decide⟩
  | 4=>@fun J=>⟨16,rfl,by decide,by decide⟩
  | 5=>@fun J=>⟨32,rfl,by decide,by decide⟩
  | j+6=>@fun h=>absurd h (by exact (fun mvo3=>(linF [j] [] [(1,.nle (.a (.a (.v 0) (.c 6)) (.c 1)) (.c 6))] rfl h)))
noncomputable abbrev fB:Ex:=.cmp .eq (.op2 .mod (.op2 .fdiv (.var 5) (.idx (.list [(.lit (.int 1)),(.lit (.int 2)),(.lit (.int 4)),(.lit (.int 8)),(.lit (.int 16)),(.lit (.int 32))]) (.var 11))) (.lit (.int 2))) (.lit (.int 1))
theorem f_comp (m:Nat) (c:Int) (a0 a1 a2 a3 a4 a6 a7 a8 a9 a10 a12:Slot) :∀(ks:List Nat) (s11:Slot),(∀k∈ks,k<6)→Ex12 (fun bs=>compB (kcC m) [a0,a1,a2,a3,a4,.fz (.int c),a6,a7,a8,a9,a10,s11,a12] fB (.one 11) [] (ks.map fun (k:Nat)=>.int (0+k))=some (.ok (bs.map PyData.bool),[a0,a1,a2,a3,a4,.fz (.int c),a6,a7,a8,a9,a10,.no,a12])) (fun bs:List Bool=>bs.length=ks.length)
  | []=>@fun s11 J=>⟨[],by show compB _ _ _ _ _ []=_; rw [compB_nil]; rfl,rfl⟩
  | k::ks=>@fun s11 hk=>by
    obtain ⟨v,hv,v0,vb⟩:=two_at k (hk k List.mem_cons_self)
    obtain ⟨bs,ih,hl⟩:=f_comp m c a0 a1 a2 a3 a4 a6 a7 a8 a9 a10 a12 ks (.fz (.int (0+(k:Int)))) fun j hj=>hk j (List.mem_cons_of_mem _ hj)
    refine ⟨((c.fdiv v).fmod 2==1)::bs,?_,congrArg (· + 1) hl⟩
    have hf:op2 .fdiv (.int c) (.int v)=some (.fz (.int (c.fdiv v))):=by show (if v≠0∧v.natAbs<2 ^ 64 then some (Rv.fz (.int (c.fdiv v))) else none)=_; rw [if_pos ⟨v0,vb⟩]
    rw [List.map_cons,List.map_cons]
    exact wkC [.d 0 (hv),.v 0 (hf),.b 1 (show cmpD Cm.eq (PyData.int ((c.fdiv v).fmod (2:Int))) (PyData.int (1:Int))=some (decide ((c.fdiv v).fmod (2:Int)=(1:Int))) by simp only [c_eqI]),.cp 0 (ih)] rfl (by kernel_rfl)
theorem nd_inj:∀ {hs:List Hd},(hs.map (·.nm)).Nodup→ ∀ {g h:Hd},g∈hs→h∈hs→g.nm=h.nm→g=h
  | []=>@fun J g h hg U j2_=>by cases hg
  | a::hs=>@fun nd g h hg hh e=>by
    rw [List.map_cons,List.nodup_cons] at nd
    rcases List.mem_cons.mp hg with hg1 | hg1 <;> rcases List.mem_cons.mp hh with hh1 | hh1
    · rw [hg1,hh1]
    · exact absurd (List.mem_map_of_mem (f:=(·.nm)) hh1) (by show h.nm∉_; rw [← e,hg1]; exact nd.1)
    · exact absurd (List.mem_map_of_mem (f:=(·.nm)) hg1) (by show g.nm∉_; rw [e,hh1]; exact nd.1)
    · exact nd_inj nd.2 hg1 hh1 e
structure SOk (hs:List Hd) (z:Option (List Bool)) (N:List Str) (ss:Sg) :Prop where
  hd:∀h∈hs, ∃fl:List Bool,flg ss h.nm=some fl∧fl.length=h.ps.length
  zz:flg ss k_zz=z
  nm:ss.map (·.1)=N
noncomputable abbrev sB:List St:=[.asg (.one 5) (.call 15 [(.var 0),(.op2 .add (.lit (.int 16)) (.var 4))]),
        .setI (.var 3) (.idx (.idx (.var 1) (.var 4)) (.lit (.int 0))) (.bi .tuple [(.comp fB (.one 11) .range [(.bi .len [(.idx (.idx (.var 1) (.var 4)) (.lit (.int 1)))])] [])])]
theorem s_loop (m:Nat) (xs:List Int) {hs:List Hd} (nd:(hs.map (·.nm)).Nodup) (hz:k_zz∉hs.map (·.nm)) (h6:∀h∈hs,h.ps.length≤6) (z:Option (List Bool)) (N:List Str) (hN:N.length≤1000) (a2 a6 a7 a8 a9 a10 a12:Slot) :∀(ks:List Nat) (ss:Sg) (s4 s5:Slot),(∀k∈ks,k<hs.length)→SOk hs z N ss→
    Ex12 (fun ss'=>forB (kcC (m+1)) [.fz (.list (xs.map .int)),sH hs,a2,.own (encS ss),s4,s5,a6,a7,a8,a9,a10,.no,a12] (.one 4) sB [4,5] (ks.map fun (k:Nat)=>.int (0+k))=some (.ok .next,[.fz (.list (xs.map .int)),sH hs,a2,.own (encS ss'),.no,.no,a6,a7,a8,a9,a10,.no,a12])) (fun ss'=>SOk hs z N ss')
  | []=>@fun ss s4 s5 J ok=>⟨ss,by show forB _ _ _ _ _ []=_; rw [forB_nil]; rfl,ok⟩
  | k::ks=>@fun ss s4 s5 hk ok=>by
    obtain ⟨hi,mh⟩:=hidx (hk k List.mem_cons_self)
    generalize hs.getD k hd0=h at hi mh
    obtain ⟨c,hc⟩:=cell m xs (16+(0+(k:Int))) (by exact (lin [k] [] 1 (.le (.c 0) (.a (.c 16) (.a (.c 0) (.n (.v 0))))) [] rfl))
    have hl6:=h6 h mh
    obtain ⟨bs,cp,hb⟩:=f_comp (m+1) c (.fz (.list (xs.map .int))) (sH hs) a2 (.own (encS ss)) (.fz (.int (0+(k:Int)))) a6 a7 a8 a9 a10 a12 (List.range h.ps.length) .no fun j hj=>Nat.lt_of_lt_of_le (List.mem_range.mp hj) hl6
    rw [List.length_range] at hb
    obtain ⟨fl,hf,hfl⟩:=ok.hd h mh
    have hr:=range_ok h.ps.length (by exact (lin [h.ps.length] [] 1 (.nle (.v 0) (.c 1000)) [(1,.nle (.v 0) (.c 6))] rfl hl6))
    have hn:(((h.ps.map PyData.str).length:Nat) :Int)=((h.ps.length:Nat) :Int):=by rw [List.length_map]
    have hlen:ss.length≤1000:=by have:=congrArg List.length ok.nm; rw [List.length_map] at this; rw [this]; exact hN
    have hset:setD (encS ss) (.str h.nm) (encB bs)=some (encS (sgSet ss h.nm bs)):=by
      show (if (ss.map encE).length<Sz then some (PyData.dict (dsetL (ss.map encE) h.nm (encB bs))) else none)=_
      rw [if_pos (by rw [List.length_map]; exact Nat.lt_of_le_of_lt hlen (by decide)),dset_old h.nm bs fl ss hf]
    have ok':SOk hs z N (sgSet ss h.nm bs):=by
      refine ⟨fun g hg=>?_,?_,by rw [sgSet_fst]; exact ok.nm⟩
      · rw [flg_set]
        obtain ⟨gl,g1,g2⟩:=ok.hd g hg
        by_cases q:g.nm=h.nm
        · rw [if_pos q,g1]
          have e:g=h:=nd_inj nd hg mh q
          exact ⟨bs,rfl,by rw [e]; exact hb⟩
        · rw [if_neg q]; exact ⟨gl,g1,g2⟩
      · rw [flg_set,if_neg (fun e=>hz (by rw [e]; exact List.mem_map_of_mem mh))]; exact ok.zz
    obtain ⟨ss',ih,ok''⟩:=s_loop m xs nd hz h6 z N hN a2 a6 a7 a8 a9 a10 a12 ks (sgSet ss h.nm bs) (.fz (.int (0+(k:Int)))) (.fz (.int c)) (fun j hj=>hk j (List.mem_cons_of_mem _ hj)) ok'
    refine ⟨ss',?_,ok''⟩
    rw [List.map_cons]
    exact wkL [.c 1 (hc),.d 0 (hi),.l 2 (show iterD Itk.range [PyData.int (↑(List.map PyData.str h.ps).length:Int)]=some (List.map (fun (k:Nat)=>PyData.int ((0:Int)+(↑k:Int))) (List.range h.ps.length)) by simp only [hn,it_range,Int.reduceNeg,hr]),.cp 0 (cp),.d 1 (hi),.d 1 (hset),.lp 0 (ih)] rfl (by kernel_rfl)
end Lq
end
section
namespace Lq
open PySem Mv
theorem cnt_get:∀ {hs:List Hd} {f:Str} {k:Nat},cnt (csOf hs) f=some k→ ∃h∈hs,h.nm=f∧h.ps.length=k
  | [],f,k,h=>by cases h
  | a::hs,f,k,h=>by
    unfold cnt csOf at h
    rw [List.map_cons,List.find?_cons] at h
    by_cases q:a.nm=f
    · rw [decide_eq_true (show (a.nm,a.ps.length).1=f from q)] at h
      exact ⟨a,List.mem_cons_self,q,Option.some.inj h⟩
    · rw [decide_eq_false (show ¬(a.nm,a.ps.length).1=f from q)] at h
      obtain ⟨g,hg,e⟩:=cnt_get (hs:=hs) (f:=f) (k:=k) h
      exact ⟨g,List.mem_cons_of_mem _ hg,e⟩
theorem SOk.sg {hs:List Hd} {z:Option (List Bool)} {N:List Str} {ss:Sg} (ok:SOk hs z N ss) :SgOk ss (csOf hs):=fun f k h=>by
  obtain ⟨g,hg,rfl,rfl⟩:=cnt_get h
  exact ok.hd g hg
structure FOk (hs:List Hd) (ss:Sg) (f:Fun) :Prop where
  fit:Fit f.2.1 (csOf hs) 8 f.2.2
  fl:∃fl:List Bool,flg ss f.1=some fl∧fl.length=f.2.1.length
  le:f.2.1.length≤1000
theorem sz_le {hs:List Hd} (h6:∀h∈hs,h.ps.length≤6) {ns:List Str} {t:T} (h:isb ns (csOf hs) 8 t=true) :sz t≤Sz:=by
  have:=(isb_small (fun f k hc=>by obtain ⟨g,hg,_,rfl⟩:=cnt_get hc; have:=h6 g hg; exact (lin [g.ps.length] [] 1 (.nle (.v 0) (.c 8)) [(1,.nle (.v 0) (.c 6))] rfl this)) 8 t h).1
  have e:(8:Nat) ^ 8=16777216:=by decide
  rw [e] at this
  show sz t≤16777216
  exact (lin [sz t] [] 7 (.nle (.v 0) (.c 16777216)) [(1,.nle (.a (.m 7 (.v 0)) (.c 1)) (.c 16777216))] rfl this)
theorem all_eq {α:Type} {p q:α→Bool} :∀ {l:List α},(∀x∈l,p x=q x)→l.all p=l.all q
  | [],_=>rfl
  | x::l,h=>by rw [List.all_cons,List.all_cons,h x List.mem_cons_self,all_eq fun y hy=>h y (List.mem_cons_of_mem _ hy)]
theorem both_ok {hs:List Hd} {z:Option (List Bool)} {N:List Str} {ss:Sg} (h6:∀h∈hs,h.ps.length≤6) (ok:SOk hs z N ss) (n:Nat) (fs:List Fun) (hf:∀f∈fs,FOk hs ss f) :
    cF P (n+9) false 2 [.fz (encP fs),.fz (encS ss)]=okb (fs.all (fok ss))∧cF P (n+9) false 31 [.fz (encP fs),.fz (encS ss)]=okb (fs.all (fok ss)):=by
  have hS:=ok.sg
  have hc8:∀f k,cnt (csOf hs) f=some k→k≤8:=fun f k hc=>by obtain ⟨g,hg,_,rfl⟩:=cnt_get hc; have:=h6 g hg; exact (lin [g.ps.length] [] 1 (.nle (.v 0) (.c 8)) [(1,.nle (.v 0) (.c 6))] rfl this)
  refine ⟨keeps_eq (n+8) ss fs fun f hm=>?_,?_⟩
  · have o:=hf f hm
    obtain ⟨fl,g1,g2⟩:=o.fl
    have hb:=o.fit.ok 8 (Nat.le_refl _)
    exact ⟨fl,g1,calls_in_eq n 8 f.2.2 hb (sz_le h6 hb),cin_in ss hS _ (n+8) 8 f.2.2 hb (by exact (lin [n] [] 1 (.nle (.c 8) (.a (.v 0) (.c 8))) [] rfl))⟩
  · have e:fs.all (fok ss)=fs.all (dok ss):=by
      refine all_eq fun f hm=>?_
      have hb:=(hf f hm).fit.ok 8 (Nat.le_refl _)
      exact (kp_cin ss hS (knOf f.2.1 (flOf ss f)) 8 f.2.2 hb).symm
    rw [e]
    refine due_eq (n+8) ss fs fun f hm=>?_
    have o:=hf f hm
    obtain ⟨fl,g1,g2⟩:=o.fl
    have hb:=o.fit.ok 8 (Nat.le_refl _)
    exact ⟨fl,g1,g2,o.le,kept_eq hc8 ss hS n _ 8 f.2.2 hb⟩
end Lq
end
section
namespace Lq
open PySem Mv
theorem w_comp (m:Nat) (a0 a1 a2 a3 a4 a5 a6 a7 a8 a9 a10 a11:Slot) :∀(fl:List Bool) (s12:Slot),Ex12 (fun L=>compB (kcC m) [a0,a1,a2,a3,a4,a5,a6,a7,a8,a9,a10,a11,s12] (.lit (.int 1)) (.one 12) [(.var 12)] (fl.map PyData.bool)=some (.ok L,[a0,a1,a2,a3,a4,a5,a6,a7,a8,a9,a10,a11,.no])) (fun L:List D=>True)
  | []=>@fun s12=>⟨[],by show compB _ _ _ _ _ []=_; rw [compB_nil]; rfl,trivial⟩
  | b::fl=>@fun s12=>by
    obtain ⟨L,ih,_⟩:=w_comp m a0 a1 a2 a3 a4 a5 a6 a7 a8 a9 a10 a11 fl (.fz (.bool b))
    rw [List.map_cons]
    cases b with
    | true=>exact ⟨.int 1::L,by exact wkC [.cp 1 (ih)] rfl (by kernel_rfl),trivial⟩
    | false=>exact ⟨L,by exact wkC [.cp 1 (ih)] rfl (by kernel_rfl),trivial⟩
noncomputable abbrev tB:List St:=[.asg (.one 9) (.call 2 [(.var 2),(.var 7)]),
      .iff (.or [(.not (.bi (.isi .bool) [(.var 9)])),(.cmp .ne (.var 9) (.var 6)),(.cmp .ned (.var 7) (.pl (.var 3)))]) [.ret (.lit (.bool false))] []]
theorem t_turn (m:Nat) (p S:D) (b:Bool) (hk:cF P m false 2 [.fz p,.fz S]=okb b) (hs:cmpD .ned S S=some false) (a0 a1 a4 a5 s7 s8 s9 a10 a11 a12:Slot) (h7:s7 = .own S∨s7 = .fz S) (d:D) (rest:List D) {R:Except Str Ctl×Mv.Fm}
    (hR:forB (kcC m) [a0,a1,.fz p,.fz S,a4,a5,.fz (.bool b),.fz S,.fz d,.fz (.bool b),a10,a11,a12] (.one 8) tB [8,9] rest=some R) :
    forB (kcC m) [a0,a1,.fz p,.fz S,a4,a5,.fz (.bool b),s7,s8,s9,a10,a11,a12] (.one 8) tB [8,9] (d::rest)=some R:=by
  rcases h7 with rfl | rfl <;> cases b <;> exact wkL [.c 0 (hk),.b 5 (hs),.lp 1 (hR)] rfl (by kernel_rfl)
end Lq
end
section
namespace Lq
open PySem Mv
noncomputable abbrev scr (xs:List Int) :Slot:=.fz (.list (xs.map .int))
inductive Tl (n:Nat) (xs:List Int) (hs:List Hd) (p:D) (ss:Sg) :Prop
  | mk (b:Bool) :cF P (n+39) false 31 [.fz p,.fz (encS ss)]=okb b→biD .dict [encS ss]=some (.own (encS ss))→
      forB (kcC (n+39)) [scr xs,sH hs,.fz p,.fz (encS ss),.no,.no,.fz (.bool b),.own (encS ss),.no,.no,.no,.no,.no] (.one 8) tB [8,9] [.int 0,.int 1]=some (.ok .next,[scr xs,sH hs,.fz p,.fz (encS ss),.no,.no,.fz (.bool b),.fz (encS ss),.no,.no,.no,.no,.no])→
      (b=false→ ∀k:D,cF P (n+39) false 32 [.fz (.int 0),.fz p,.fz (encS ss),.fz k]=okb true∧cF P (n+39) false 32 [.fz (.int 1),.fz p,.fz (encS ss),.fz k]=okb true)→Tl n xs hs p ss
theorem tl_ok (n:Nat) (xs:List Int) {hs:List Hd} {z:Option (List Bool)} {N:List Str} {ss:Sg} (h6:∀h∈hs,h.ps.length≤6) (ok:SOk hs z N ss) (nd:N.Nodup) (hN:N.length≤1000) (fs:List Fun) (hf:∀f∈fs,FOk hs ss f) :Tl n xs hs (encP fs) ss:=by
  obtain ⟨k1,d1⟩:=both_ok h6 ok (n+30) fs hf
  obtain ⟨k2,_⟩:=both_ok h6 ok (n+27) fs hf
  have hlen:ss.length≤1000:=by have:=congrArg List.length ok.nm; rw [List.length_map] at this; rw [this]; exact hN
  have hned:=same_dict ss (by rw [ok.nm]; exact nd)
  refine ⟨fs.all (fok ss),d1,?_,?_,fun e k=>?_⟩
  · show (if (ss.map encE).length≤1000 then some (Rv.own (encS ss)) else none)=_
    rw [if_pos (by rw [List.length_map]; exact hlen)]
  · refine t_turn (n+39) (encP fs) (encS ss) _ k1 hned _ _ _ _ _ _ _ _ _ _ (.inl rfl) _ _ (t_turn (n+39) (encP fs) (encS ss) _ k1 hned _ _ _ _ _ _ _ _ _ _ (.inr rfl) _ _ ?_)
    rw [forB_nil]; rfl
  · rw [e] at k2
    exact ⟨refused_0 (n+36) _ _ k k2,refused_1 (n+36) _ _ k k2⟩
theorem zz_no {l:List Str} {hs:List Hd} (hh:HdsOk l hs) :k_zz∉hs.map (·.nm):=fun h=>hh.nm.zz (hh.mem _ h)
theorem sg_start {l:List Str} {hs:List Hd} (hh:HdsOk l hs) :SOk hs none (hs.map (·.nm)) (sgOf hs):=by
  have e:(sgOf hs).map (·.1)=hs.map (·.nm):=by unfold sgOf; rw [List.map_map]; rfl
  refine ⟨fun h hm=>⟨h.wn,?_,(hh.ok h hm).wn⟩,?_,e⟩
  · exact flg_self (by rw [e]; exact hh.nd) (h.nm,h.wn) (List.mem_map_of_mem (f:=fun h:Hd=>(h.nm,h.wn)) hm)
  · unfold flg
    rw [List.find?_eq_none.mpr fun p hp q=>zz_no hh (by rw [← e,← of_decide_eq_true q]; exact List.mem_map_of_mem hp)]; rfl
theorem sg_zz {hs:List Hd} {N:List Str} {ss:Sg} (ok:SOk hs none N ss) (l:List Bool) :SOk hs (some l) (N++[k_zz]) (ss++[(k_zz,l)]):=by
  refine ⟨fun h hm=>?_,?_,by rw [List.map_append,ok.nm]; rfl⟩
  · obtain ⟨fl,g1,g2⟩:=ok.hd h hm
    exact ⟨fl,by rw [flg_app,g1],g2⟩
  · rw [flg_app,ok.zz]; show (if k_zz=k_zz then some l else none)=some l; rw [if_pos rfl]
theorem fs_ok {l:List Str} {hs:List Hd} (hh:HdsOk l hs) {fs:List Fun} (hp:PrOk hs fs) {z:Option (List Bool)} {N:List Str} {ss:Sg} (ok:SOk hs z N ss) :∀f∈fs,FOk hs ss f:=fun f hf=>by
  have hm:(f.1,f.2.1)∈hs.map fun h=>(h.nm,h.ps):=by rw [← hp.hd]; exact List.mem_map_of_mem (f:=fun f:Fun=>(f.1,f.2.1)) hf
  obtain ⟨h,hm,e⟩:=List.mem_map.mp hm
  have e1:h.nm=f.1:=congrArg (·.1) e
  have e2:h.ps=f.2.1:=congrArg (·.2) e
  obtain ⟨fl,g1,g2⟩:=ok.hd h hm
  exact ⟨hp.ok f hf,⟨fl,by rw [← e1]; exact g1,by rw [← e2]; exact g2⟩,by rw [← e2]; have:=(hh.ok h hm).le; exact (lin [h.ps.length] [] 1 (.nle (.v 0) (.c 1000)) [(1,.nle (.v 0) (.c 6))] rfl this)⟩
end Lq
end
section
namespace Lq
open PySem Mv
theorem law_ok (n:Nat) (xs:List Int) :cF P (n+40) false 36 [scr xs]=okb true:=by
  obtain ⟨l,hs,r,hr,hh,ho⟩:=heads_eq (n+37) xs
  obtain ⟨fs,hf,hp⟩:=program_eq (n+18) xs hh
  have h4:=hh.le
  have h0:=hh.pos
  have nd:=hh.nd
  have hso:=sorting_eq (n+38) hs nd (by exact (lin [hs.length] [] 1 (.nle (.v 0) (.c 1000)) [(1,.nle (.v 0) (.c 4))] rfl h4))
  obtain ⟨c20,h20⟩:=cell (n+38) xs 20 (by decide)
  obtain ⟨c15,h15⟩:=cell (n+38) xs 15 (by decide)
  have h6:∀h∈hs,h.ps.length≤6:=fun h hm=>(hh.ok h hm).le
  have hsure:=each_sure_ok (n+27)
  have e2:(if (2:Int)≤(Sz:Int) then some (rangeL 0 2) else none)=some [PyData.int 0,.int 1]:=by rw [if_pos (by decide)]; rfl
  obtain ⟨hi0,m0⟩:=hidx (hs:=hs) (k:=0) (by exact (lin [hs.length] [] 1 (.nle (.a (.c 0) (.c 1)) (.v 0)) [(1,.nle (.c 1) (.v 0))] rfl h0))
  generalize hs.getD 0 hd0=g0 at hi0 m0
  have hi0:idxOf (hs.map encH) 0=some (encH g0):=hi0
  have hrg:=range_ok hs.length (by exact (lin [hs.length] [] 1 (.nle (.v 0) (.c 1000)) [(1,.nle (.v 0) (.c 4))] rfl h4))
  have hn:(((hs.map encH).length:Nat) :Int)=((hs.length:Nat) :Int):=by rw [List.length_map]
  have fin:∀(ss:Sg) (z:Option (List Bool)) (N:List Str),SOk hs z N ss→ ∀(p:D) (b:Bool), ∃L fl,flg ss g0.nm=some fl∧compB (kcC (n+39)) [scr xs,sH hs,.fz p,.fz (encS ss),.no,.no,.fz (.bool b),.fz (encS ss),.no,.no,.no,.no,.no] (.lit (.int 1)) (.one 12) [(.var 12)] (fl.map PyData.bool)=some (.ok L,[scr xs,sH hs,.fz p,.fz (encS ss),.no,.no,.fz (.bool b),.fz (encS ss),.no,.no,.no,.no,.no]):=fun ss z N ok p b=>by
    obtain ⟨fl,g1,g2⟩:=ok.hd g0 m0
    obtain ⟨L,hL,_⟩:=w_comp (n+39) (scr xs) (sH hs) (.fz p) (.fz (encS ss)) .no .no (.fz (.bool b)) (.fz (encS ss)) .no .no .no .no fl .no
    exact ⟨L,fl,g1,hL⟩
  have ok0:=sg_start hh
  by_cases q20:c20.fmod 2=1
  · obtain ⟨t,hm,ft⟩:=more_eq (hh.hok) (n+37) xs
    have lfs:fs.length≤1000:=by have:=congrArg List.length hp.hd; rw [List.length_map,List.length_map] at this; exact (lin [fs.length,hs.length] [] 1 (.nle (.v 0) (.c 1000)) [(1,.nle (.v 1) (.c 4)),(1,.neq (.v 0) (.v 1))] rfl h4 this)
    have hadd:op2 .add (.tuple (fs.map encF)) (.tuple [encF (k_zz,zN,t)])=some (.fz (encP (fs++[(k_zz,zN,t)]))):=by
      have e:encP (fs++[(k_zz,zN,t)]) = .tuple (fs.map encF++[encF (k_zz,zN,t)]):=by show PyData.tuple _=_; rw [List.map_append]; rfl
      rw [e]
      exact (o_addT (fs.map encF) [encF (k_zz,zN,t)]).trans (if_pos (by rw [List.length_map]; show fs.length+1≤16777216; exact (lin [fs.length] [] 1 (.nle (.a (.v 0) (.c 1)) (.c 16777216)) [(1,.nle (.v 0) (.c 1000))] rfl lfs)))
    have hset:setD (encS (sgOf hs)) (.str k_zz) (.tuple [.bool ((c20.fdiv 2).fmod 2==1),.bool ((c20.fdiv 4).fmod 2==1)])=some (encS (sgOf hs++[(k_zz,[(c20.fdiv 2).fmod 2==1,(c20.fdiv 4).fmod 2==1])])):=by
      show (if ((sgOf hs).map encE).length<Sz then some (PyData.dict (dsetL ((sgOf hs).map encE) k_zz (encB [(c20.fdiv 2).fmod 2==1,(c20.fdiv 4).fmod 2==1]))) else none)=_
      rw [if_pos (by rw [List.length_map]; unfold sgOf; rw [List.length_map]; show hs.length<16777216; exact (lin [hs.length] [] 1 (.nle (.a (.v 0) (.c 1)) (.c 16777216)) [(1,.nle (.v 0) (.c 4))] rfl h4)),dset_sg k_zz _ (sgOf hs) (by rw [ok0.nm]; exact zz_no hh)]
    have ok1:=sg_zz ok0 [(c20.fdiv 2).fmod 2==1,(c20.fdiv 4).fmod 2==1]
    have ndz:(hs.map (·.nm)++[k_zz]).Nodup:=List.nodup_append.mpr ⟨nd,List.nodup_cons.mpr ⟨List.not_mem_nil,List.nodup_nil⟩,fun a ha b hb e=>zz_no hh (by rw [← List.mem_singleton.mp hb,← e]; exact ha)⟩
    have lN:(hs.map (·.nm)++[k_zz]).length≤1000:=by rw [List.length_append,List.length_map]; show hs.length+1≤1000; exact (lin [hs.length] [] 1 (.nle (.a (.v 0) (.c 1)) (.c 1000)) [(1,.nle (.v 0) (.c 4))] rfl h4)
    have fz:∀ss:Sg,SOk hs (some [(c20.fdiv 2).fmod 2==1,(c20.fdiv 4).fmod 2==1]) (hs.map (·.nm)++[k_zz]) ss→ ∀f∈fs++[(k_zz,zN,t)],FOk hs ss f:=fun ss ok f hm=>by
      rcases List.mem_append.mp hm with hm | hm
      · exact fs_ok hh hp ok f hm
      · rw [List.mem_singleton.mp hm]; exact ⟨ft,⟨_,ok.zz,rfl⟩,by show 2≤1000; decide⟩
    generalize sgOf hs++[(k_zz,[(c20.fdiv 2).fmod 2==1,(c20.fdiv 4).fmod 2==1])]=s1 at hset ok1
    by_cases q15:c15.fmod 2=1
    · obtain ⟨ss,lp,ok⟩:=s_loop (n+38) xs nd (zz_no hh) h6 _ _ lN (.fz (encP (fs++[(k_zz,zN,t)]))) .no .no .no .no .no .no (List.range hs.length) s1 .no .no (fun k hk=>List.mem_range.mp hk) ok1
      obtain ⟨b,td,tc,tt,tr⟩:=tl_ok n xs h6 ok ndz lN _ (fz ss ok)
      obtain ⟨L,fl,hfl,hL⟩:=fin ss _ _ ok (encP (fs++[(k_zz,zN,t)])) b
      have hg:dgetL (ss.map fun p=>(PyData.str p.1,encB p.2)) g0.nm=some (encB fl):=(dget_flg _ ss).trans (by rw [hfl]; rfl)
      cases b with
      | true=>rcases ho with rfl | rfl <;> exact wkF [.c 0 (hr),.c 0 (hf),.c 0 (hso),.c 0 (h20),.b 1 (show cmpD Cm.eq (PyData.int (c20.fmod (2:Int))) (PyData.int (1:Int))=some true by simp only [c_eqI,eq_true q20,decide_true]),.c 1 (hm),.v 0 (hadd),.c 0 (h20),.b 2 (show cmpD Cm.eq (PyData.int ((c20.fdiv (2:Int)).fmod (2:Int))) (PyData.int (1:Int))=some (decide ((c20.fdiv (2:Int)).fmod (2:Int)=(1:Int))) by simp only [c_eqI]),.c 0 (h20),.b 2 (show cmpD Cm.eq (PyData.int ((c20.fdiv (4:Int)).fmod (2:Int))) (PyData.int (1:Int))=some (decide ((c20.fdiv (4:Int)).fmod (2:Int)=(1:Int))) by simp only [c_eqI]),.d 0 (hset),.c 0 (h15),.b 1 (show cmpD Cm.eq (PyData.int (c15.fmod (2:Int))) (PyData.int (1:Int))=some true by simp only [c_eqI,eq_true q15,decide_true]),.l 2 (show iterD Itk.range [PyData.int (↑(List.map encH hs).length:Int)]=some (List.map (fun (k:Nat)=>PyData.int ((0:Int)+(↑k:Int))) (List.range hs.length)) by simp only [hn,it_range,Int.reduceNeg,hrg]),.lp 0 (lp),.c 0 (td),.v 0 (tc),.lp 1 (tt),.c 0 (hsure)] rfl (by kernel_rfl)
      | false=>
        have tr:=tr rfl (.tuple L)
        rcases ho with rfl | rfl <;> exact wkF [.c 0 (hr),.c 0 (hf),.c 0 (hso),.c 0 (h20),.b 1 (show cmpD Cm.eq (PyData.int (c20.fmod (2:Int))) (PyData.int (1:Int))=some true by simp only [c_eqI,eq_true q20,decide_true]),.c 1 (hm),.v 0 (hadd),.c 0 (h20),.b 2 (show cmpD Cm.eq (PyData.int ((c20.fdiv (2:Int)).fmod (2:Int))) (PyData.int (1:Int))=some (decide ((c20.fdiv (2:Int)).fmod (2:Int)=(1:Int))) by simp only [c_eqI]),.c 0 (h20),.b 2 (show cmpD Cm.eq (PyData.int ((c20.fdiv (4:Int)).fmod (2:Int))) (PyData.int (1:Int))=some (decide ((c20.fdiv (4:Int)).fmod (2:Int)=(1:Int))) by simp only [c_eqI]),.d 0 (hset),.c 0 (h15),.b 1 (show cmpD Cm.eq (PyData.int (c15.fmod (2:Int))) (PyData.int (1:Int))=some true by simp only [c_eqI,eq_true q15,decide_true]),.l 2 (show iterD Itk.range [PyData.int (↑(List.map encH hs).length:Int)]=some (List.map (fun (k:Nat)=>PyData.int ((0:Int)+(↑k:Int))) (List.range hs.length)) by simp only [hn,it_range,Int.reduceNeg,hrg]),.lp 0 (lp),.c 0 (td),.v 0 (tc),.lp 1 (tt),.c 0 (hsure),.d 3 (hi0),.d 1 (hg),.cp 1 (hL),.c 1 (tr.1),.c 1 (tr.2)] rfl (by kernel_rfl)
    · obtain ⟨b,td,tc,tt,tr⟩:=tl_ok n xs h6 ok1 ndz lN _ (fz s1 ok1)
      obtain ⟨L,fl,hfl,hL⟩:=fin s1 _ _ ok1 (encP (fs++[(k_zz,zN,t)])) b
      have hg:dgetL (s1.map fun p=>(PyData.str p.1,encB p.2)) g0.nm=some (encB fl):=(dget_flg _ s1).trans (by rw [hfl]; rfl)
      cases b with
      | true=>rcases ho with rfl | rfl <;> exact wkF [.c 0 (hr),.c 0 (hf),.c 0 (hso),.c 0 (h20),.b 1 (show cmpD Cm.eq (PyData.int (c20.fmod (2:Int))) (PyData.int (1:Int))=some true by simp only [c_eqI,eq_true q20,decide_true]),.c 1 (hm),.v 0 (hadd),.c 0 (h20),.b 2 (show cmpD Cm.eq (PyData.int ((c20.fdiv (2:Int)).fmod (2:Int))) (PyData.int (1:Int))=some (decide ((c20.fdiv (2:Int)).fmod (2:Int)=(1:Int))) by simp only [c_eqI]),.c 0 (h20),.b 2 (show cmpD Cm.eq (PyData.int ((c20.fdiv (4:Int)).fmod (2:Int))) (PyData.int (1:Int))=some (decide ((c20.fdiv (4:Int)).fmod (2:Int)=(1:Int))) by simp only [c_eqI]),.d 0 (hset),.c 0 (h15),.b 1 (show cmpD Cm.eq (PyData.int (c15.fmod (2:Int))) (PyData.int (1:Int))=some false by simp only [c_eqI,eq_false q15,decide_false]),.c 1 (td),.v 0 (tc),.lp 1 (tt),.c 0 (hsure)] rfl (by kernel_rfl)
      | false=>
        have tr:=tr rfl (.tuple L)
        rcases ho with rfl | rfl <;> exact wkF [.c 0 (hr),.c 0 (hf),.c 0 (hso),.c 0 (h20),.b 1 (show cmpD Cm.eq (PyData.int (c20.fmod (2:Int))) (PyData.int (1:Int))=some true by simp only [c_eqI,eq_true q20,decide_true]),.c 1 (hm),.v 0 (hadd),.c 0 (h20),.b 2 (show cmpD Cm.eq (PyData.int ((c20.fdiv (2:Int)).fmod (2:Int))) (PyData.int (1:Int))=some (decide ((c20.fdiv (2:Int)).fmod (2:Int)=(1:Int))) by simp only [c_eqI]),.c 0 (h20),.b 2 (show cmpD Cm.eq (PyData.int ((c20.fdiv (4:Int)).fmod (2:Int))) (PyData.int (1:Int))=some (decide ((c20.fdiv (4:Int)).fmod (2:Int)=(1:Int))) by simp only [c_eqI]),.d 0 (hset),.c 0 (h15),.b 1 (show cmpD Cm.eq (PyData.int (c15.fmod (2:Int))) (PyData.int (1:Int))=some false by simp only [c_eqI,eq_false q15,decide_false]),.c 1 (td),.v 0 (tc),.lp 1 (tt),.c 0 (hsure),.d 3 (hi0),.d 1 (hg),.cp 1 (hL),.c 1 (tr.1),.c 1 (tr.2)] rfl (by kernel_rfl)
  · by_cases q15:c15.fmod 2=1
    · obtain ⟨ss,lp,ok⟩:=s_loop (n+38) xs nd (zz_no hh) h6 none (hs.map (·.nm)) (by rw [List.length_map]; exact (lin [hs.length] [] 1 (.nle (.v 0) (.c 1000)) [(1,.nle (.v 0) (.c 4))] rfl h4)) (.fz (encP fs)) .no .no .no .no .no .no (List.range hs.length) (sgOf hs) .no .no (fun k hk=>List.mem_range.mp hk) ok0
      obtain ⟨b,td,tc,tt,tr⟩:=tl_ok n xs h6 ok nd (by rw [List.length_map]; exact (lin [hs.length] [] 1 (.nle (.v 0) (.c 1000)) [(1,.nle (.v 0) (.c 4))] rfl h4)) fs (fs_ok hh hp ok)
      obtain ⟨L,fl,hfl,hL⟩:=fin ss _ _ ok (encP fs) b
      have hg:dgetL (ss.map fun p=>(PyData.str p.1,encB p.2)) g0.nm=some (encB fl):=(dget_flg _ ss).trans (by rw [hfl]; rfl)
      cases b with
      | true=>rcases ho with rfl | rfl <;> exact wkF [.c 0 (hr),.c 0 (hf),.c 0 (hso),.c 0 (h20),.b 1 (show cmpD Cm.eq (PyData.int (c20.fmod (2:Int))) (PyData.int (1:Int))=some false by simp only [c_eqI,eq_false q20,decide_false]),.c 1 (h15),.b 1 (show cmpD Cm.eq (PyData.int (c15.fmod (2:Int))) (PyData.int (1:Int))=some true by simp only [c_eqI,eq_true q15,decide_true]),.l 2 (show iterD Itk.range [PyData.int (↑(List.map encH hs).length:Int)]=some (List.map (fun (k:Nat)=>PyData.int ((0:Int)+(↑k:Int))) (List.range hs.length)) by simp only [hn,it_range,Int.reduceNeg,hrg]),.lp 0 (lp),.c 0 (td),.v 0 (tc),.lp 1 (tt),.c 0 (hsure)] rfl (by kernel_rfl)
      | false=>
        have tr:=tr rfl (.tuple L)
        rcases ho with rfl | rfl <;> exact wkF [.c 0 (hr),.c 0 (hf),.c 0 (hso),.c 0 (h20),.b 1 (show cmpD Cm.eq (PyData.int (c20.fmod (2:Int))) (PyData.int (1:Int))=some false by simp only [c_eqI,eq_false q20,decide_false]),.c 1 (h15),.b 1 (show cmpD Cm.eq (PyData.int (c15.fmod (2:Int))) (PyData.int (1:Int))=some true by simp only [c_eqI,eq_true q15,decide_true]),.l 2 (show iterD Itk.range [PyData.int (↑(List.map encH hs).length:Int)]=some (List.map (fun (k:Nat)=>PyData.int ((0:Int)+(↑k:Int))) (List.range hs.length)) by simp only [hn,it_range,Int.reduceNeg,hrg]),.lp 0 (lp),.c 0 (td),.v 0 (tc),.lp 1 (tt),.c 0 (hsure),.d 3 (hi0),.d 1 (hg),.cp 1 (hL),.c 1 (tr.1),.c 1 (tr.2)] rfl (by kernel_rfl)
    · obtain ⟨b,td,tc,tt,tr⟩:=tl_ok n xs h6 ok0 nd (by rw [List.length_map]; exact (lin [hs.length] [] 1 (.nle (.v 0) (.c 1000)) [(1,.nle (.v 0) (.c 4))] rfl h4)) fs (fs_ok hh hp ok0)
      obtain ⟨L,fl,hfl,hL⟩:=fin (sgOf hs) _ _ ok0 (encP fs) b
      have hg:dgetL ((sgOf hs).map fun p=>(PyData.str p.1,encB p.2)) g0.nm=some (encB fl):=(dget_flg _ (sgOf hs)).trans (by rw [hfl]; rfl)
      cases b with
      | true=>rcases ho with rfl | rfl <;> exact wkF [.c 0 (hr),.c 0 (hf),.c 0 (hso),.c 0 (h20),.b 1 (show cmpD Cm.eq (PyData.int (c20.fmod (2:Int))) (PyData.int (1:Int))=some false by simp only [c_eqI,eq_false q20,decide_false]),.c 1 (h15),.b 1 (show cmpD Cm.eq (PyData.int (c15.fmod (2:Int))) (PyData.int (1:Int))=some false by simp only [c_eqI,eq_false q15,decide_false]),.c 1 (td),.v 0 (tc),.lp 1 (tt),.c 0 (hsure)] rfl (by kernel_rfl)
      | false=>
        have tr:=tr rfl (.tuple L)
        rcases ho with rfl | rfl <;> exact wkF [.c 0 (hr),.c 0 (hf),.c 0 (hso),.c 0 (h20),.b 1 (show cmpD Cm.eq (PyData.int (c20.fmod (2:Int))) (PyData.int (1:Int))=some false by simp only [c_eqI,eq_false q20,decide_false]),.c 1 (h15),.b 1 (show cmpD Cm.eq (PyData.int (c15.fmod (2:Int))) (PyData.int (1:Int))=some false by simp only [c_eqI,eq_false q15,decide_false]),.c 1 (td),.v 0 (tc),.lp 1 (tt),.c 0 (hsure),.d 3 (hi0),.d 1 (hg),.cp 1 (hL),.c 1 (tr.1),.c 1 (tr.2)] rfl (by kernel_rfl)
end Lq
end
open PySem PySem.W PyProof.Rows Mv
set_option maxHeartbeats 8000000
namespace Lq
theorem loadAs {mg mb:Str→Option Value} {K:Frag} (hg:∀x,mg x=glOf K x) :∀ {cs:List Str},(cs.all fun x=>(glOf K x).isSome)=true→LoadAs mg mb cs (cs.map (VOf K))
  | [],_=>trivial
  | x::cs,h=>by
    rw [List.all_cons,Bool.and_eq_true] at h
    obtain ⟨v,hv⟩:=Option.isSome_iff_exists.mp h.1
    refine ⟨.inl ?_,loadAs hg h.2⟩
    rw [hg,hv]; unfold VOf; rw [hv]; rfl
theorem defAt:(recsOf Hq.view)[36]? = some Hq.dk.1:=by kernel_rfl
theorem gTame (P:Params) :glOf (Hq.K P) (Str.ofString "TAME") = some (.ref 15):=by kernel_rfl
theorem kTame (P:Params) :∃o,(Hq.K P).lookup 15 = some o∧o = {cls:=.type "tuple",data:=.seq [Value.str ⟨[102,105,114,115,116].toArray⟩ 189,Value.str ⟨[114,101,115,116].toArray⟩ 190,Value.str ⟨[100,111,119,110].toArray⟩ 191].toArray}:=⟨_,rfl,by kernel_rfl⟩
theorem gSing (P:Params) :glOf (Hq.K P) (Str.ofString "SINGLES") = some (.ref 170):=by kernel_rfl
theorem kSing (P:Params) :∃o,(Hq.K P).lookup 170 = some o∧o = {cls:=.type "tuple",data:=.seq [Value.str ⟨[100,111,119,110].toArray⟩ 409,Value.str ⟨[102,105,114,115,116].toArray⟩ 410,Value.str ⟨[114,101,115,116].toArray⟩ 411,Value.str ⟨[101,109,112,116,121].toArray⟩ 412].toArray}:=⟨_,rfl,by kernel_rfl⟩
theorem vHeav:valOf Hq.view (Str.ofString "HEAVIEST") = some (.int 50):=by kernel_rfl
end Lq
set_option tactic.hygienic true in
theorem PySem.Challenge.cw_uf010005_05_holds : PySem.Challenge.rw_uf010005_05.Holds :=
  Hq.hd (by
  intro w s₀ s₁ mg mb G Y fa o pm cd doc dV kV ho hd hcd hD hmg hg args vals as hpre hlay hrd hwl hlo
  have KX:=kIn_of Y
  have V:=(Ground.X G).2
  refine Ground.open G ?_
  intro T B D TE TW
  wrow_args hpre hlay hrd hwl hlo
  rename_i xs hs hlay0 hL hr hl2 w4 w3 l vs w0 hL' ra w1 r0 hI hr' hc1 hc2
  refine enter_call ?_
  obtain ⟨c,d,es,ep,sl,hkg⟩:=Lq.kG w.params
  have hgl:=glOf_ok KX T.g hkg
  letI hp:Hp:=⟨w⟩
  refine law_top (hp:=hp) (P:=Lq.P) (gl:=Lq.gls) (nss:=Lq.nss) (cls:=Lq.cls) (sb:=Lq.sb) (sbt:=Lq.sbt) (f:=36) (n:=40) (xs:=xs) T Lq.chk Lq.chkF (owns_raise T PySem.F.excBase_ValueError Lq.chkC) ?_ ?_ ?_ Lq.defAt hmg w1 ?_ (by decide) hg ?_ ?_ (Lq.law_ok 0 xs)
  · intro c yes no hl
    have:=List.all_eq_true.mp (Lq.chkA w.params) _ (lookup_mem hl)
    simp only [Bool.and_eq_true,Bool.or_eq_true,decide_eq_true_eq] at this
    obtain ⟨h1,h2⟩:=this
    refine ⟨Lq.VOf (Hq.K w.params) c,?_,fun k C hk=>entB_ok KX h1 k C (by rw [← hgl]; exact hk)⟩
    cases q:glOf (Hq.K w.params) c with
    | some v=>left; rw [hgl,q]; unfold Lq.VOf; rw [q]; rfl
    | none=>
      rcases h2 with h2 | h2
      · rw [q] at h2; cases h2
      · right
        refine ⟨by rw [hgl,q],?_⟩
        rw [T.builtins c (by rw [h2]; decide),h2,Lq.bootVE,← h2]
        unfold Lq.VOf; rw [q]; rfl
  · intro cs yes no hl
    have:=List.all_eq_true.mp (Lq.chkT w.params) _ (lookup_mem hl)
    rw [Bool.and_eq_true] at this
    exact ⟨_,Lq.loadAs hgl this.2,fun k C hk=>entT_ok KX this.1 k C (by rw [← hgl]; exact hk)⟩
  · intro k x d hk hd'
    match k,hk,hd' with
    | 0,hk,hd'=>
      cases hk; cases hd'
      refine ⟨.ref 15,(hgl _).trans (Lq.gTame w.params),fun h' Z hk hz=>?_⟩
      obtain ⟨o,e,q⟩:=Lq.kTame w.params
      have e:=KX _ _ e
      rw [q] at e
      exact .tuple (hz _ _ e) (hk _ _ e) (by decide) (.cons (.str _ _ (by kernel_rfl) (by decide)) (.cons (.str _ _ (by kernel_rfl) (by decide)) (.cons (.str _ _ (by kernel_rfl) (by decide)) .nil)))
    | 1,hk,hd'=>
      cases hk; cases hd'
      exact loose_int V (.head _)
    | 2,hk,hd'=>
      cases hk; cases hd'
      exact const_int T Lq.vHeav
    | 3,hk,hd'=>
      cases hk; cases hd'
      refine ⟨.ref 170,(hgl _).trans (Lq.gSing w.params),fun h' Z hk hz=>?_⟩
      obtain ⟨o,e,q⟩:=Lq.kSing w.params
      have e:=KX _ _ e
      rw [q] at e
      exact .tuple (hz _ _ e) (hk _ _ e) (by decide) (.cons (.str _ _ (by kernel_rfl) (by decide)) (.cons (.str _ _ (by kernel_rfl) (by decide)) (.cons (.str _ _ (by kernel_rfl) (by decide)) (.cons (.str _ _ (by kernel_rfl) (by decide)) .nil))))
  · have:xs.length≤63:=by omega
    exact Nat.le_trans this (by decide)
  · intro cls; rfl
  · wrow_post)
