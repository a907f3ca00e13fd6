import PyProof.Rows.All
import PyProof.Rows.Top
import PyProof.EqLayable
import PyProof.CompFree
import PyProof.Cells
import PyProof.ForAny
import PyProof.StationsW
import PyProof.Rows.Nodes
import PyProof.Rows.Chain
import PyProof.Rows.Method
import PyProof.Rows.TupSub
import PyProof.Rows.StrTemp
import PyProof.Rows.Exc
import PyProof.Rules3
import PyProof.ListTruth
import PyProof.Truth
import PyProof.Rows.RuleU_int
import PyProof.Rows.TupMore
import PyProof.SliceSyntax
import PyProof.SliceList
import PyProof.SliceStr2
import PyProof.Rows.IntRules
import PyProof.Rows.RuleC_int
import PyProof.Rows.RuleB_mul
import PyProof.Rows.RuleB_mod
import PyProof.Rows.RuleB_floordiv
import PyProof.Rows.RuleB_pow
import PyProof.Rows.RotEnd
import PyProof.Rows.ListMulArg
import PyProof.Rows.RuleIs
import PyProof.Rows.RuleIs2
import PyProof.Rows.StrRules
import PyProof.Rows.IntBool
import PyProof.StrBlock
import PyProof.NoPylong
import PyProof.NeData
import PyProof.DictKinds
import PyProof.StrBlock2
import PyProof.FitsBits
import PyProof.SliceMore
import PyProof.StrLawsIn
import PyProof.StrLawsIdx
import PyProof.Rows.Lst
import PyProof.Rows.Tup
import PyProof.RangeFor
import PyProof.Rows.Range3
import PyProof.WalksMore
import PyProof.StrWalks
import PyProof.SumAny
import PyProof.WalkInts
import PyProof.MinMaxWalk
import PyProof.TableTree
import PyProof.CompUse
import PyProof.Raises
import PyProof.Rules2
import PyProof.Methods
import PyProof.ListIndex
import PyProof.Dict
import PyProof.StrCalls2
import PyProof.StrCalls3
import PyProof.StrCalls5
import PyProof.StrCalls6
import PyProof.StrLawsReplace
import PyProof.StrLawsTight
import PyProof.Rows.StrNews
import PyProof.IsiPairs
import PyProof.IsiHeapPairs
import Open.Line
import KE.KIsAll
import PyProof.ExcAttrAll.ValueError
import PyProof.ExcBaseAll.ValueError
import KE.KTryMore
import PyProof.NsDelKeeps
import PyProof.RulesAs
import PyProof.RulesTry
import PyProof.ConsumeWalk
import PyProof.Conv_int_bool
import PyProof.Rows.ListCopyD
import OpenK.KWalk
import PyProof.FactsAll.list_2
import PyProof.FactsAll.list_3
import PyProof.AutoSeq1
import PyProof.Rows.SortWalk
import PyProof.MeetsSeq
import PyProof.FactsAll.list_4
import Open.FastRun
import Open.Tree
import Open.Boot
import Wide.All
import Open.FastT9
import Wide.FinOn
import PySem.Challenge.RW_uf040006_14
set_option Elab.async false
set_option genSizeOf false
set_option linter.all false
set_option compiler.extract_closed false
noncomputable section
abbrev Mine.pW:=PySem.Challenge.pw_uf040006_14
abbrev Mine.pR:=PySem.Challenge.rw_uf040006_14.row.prog
abbrev Mine.vAy:=@Option.some.inj
abbrev Mine.vAz:=@Nat.le_trans
abbrev Mine.vBA:=@List.mem_cons_self
abbrev Mine.vBB:=@PySem.Heap.get?_push_of_some
abbrev Mine.vBC:=@List.mem_cons_of_mem
abbrev Mine.vBD:=@Option.map_eq_some_iff
abbrev Mine.vBE:=@PySem.wpAny_bind
abbrev Mine.vBF:=@List.length_map
abbrev Mine.vBG:=@Option.bind_eq_some_iff
abbrev Mine.vBH:=@List.mem_singleton
abbrev Mine.vBI:=@Nat.le_refl
abbrev Mine.vBJ:=@List.getD_eq_getElem?_getD
abbrev Mine.vBK:=@List.mem_append
abbrev Mine.vBL:=@PySem.Heap.get?_push_size
abbrev Mine.vBM:=@PySem.wpAny_pure
abbrev Mine.vBN:=@Int.fmod_nonneg_of_pos
abbrev Mine.vBO:=@List.length_append
abbrev Mine.vBP:=@List.getElem?_eq_getElem
abbrev Mine.vBQ:=@List.mem_append_right
abbrev Mine.vBR:=@Bool.and_eq_true
abbrev Mine.vBS:=@Int.fmod_lt_of_pos
abbrev Mine.vBT:=@List.mem_of_getElem?
abbrev Mine.vBU:=@List.mem_append_left
abbrev Mine.vBV:=@List.mem_range
abbrev Mine.vBW:=@Nat.le_add_right
abbrev Mine.vBX:=@Nat.not_lt_zero
abbrev Mine.vBY:=@List.getElem?_eq_some_iff
abbrev Mine.vBZ:=@decide_eq_true_eq
abbrev Mine.vBa:=@List.mem_map
abbrev Mine.vBb:=@PySem.Heap.lt_size
abbrev Mine.vBc:=@beq_iff_eq
abbrev Mine.vBd:=@Nat.le_of_lt
abbrev Mine.vBe:=@Option.isSome_iff_exists
abbrev Mine.vBf:=@PySem.Heap.get?_update_self
abbrev Mine.vBg:=@List.getElem?_map
abbrev Mine.vBh:=@Nat.lt_of_le_of_lt
abbrev Mine.vBi:=@Int.natCast_nonneg
abbrev Mine.vBj:=@List.contains_iff_mem
abbrev Mine.vBk:=@decide_eq_true
abbrev Mine.vBl:=@Nat.succ_le_succ
abbrev Mine.vBm:=@PySem.wpAny_newObj_type
abbrev Mine.vBn:=@List.length_pos_iff
abbrev Mine.vBo:=@PySem.Heap.SameBut.update
abbrev Mine.vBp:=@PySem.wpAny_execs_nil
abbrev Mine.vBq:=@PyProof.Rows.callWith_builtin1
abbrev Mine.vBr:=@Nat.succ_pos
abbrev Mine.vBs:=@Nat.le_of_eq
abbrev Mine.vBt:=@List.all_eq_true
abbrev Mine.vBu:=@Int.eq_ofNat_of_zero_le
abbrev Mine.vBv:=@List.map_append
abbrev Mine.vBw:=@List.take_of_length_le
abbrev Mine.vBx:=@PySem.Heap.get?_update_other
abbrev Mine.vBy:=@Nat.le_of_not_lt
abbrev Mine.vBz:=@Nat.zero_le
abbrev Mine.vCA:=@PySem.Heap.get?_none_of_le
abbrev Mine.vCB:=@List.length_range
abbrev Mine.vCC:=@List.append_assoc
abbrev Mine.vCD:=@Bool.or_eq_true
abbrev Mine.vCE:=@Int.toNat_of_nonneg
abbrev Mine.vCF:=@List.length_drop
abbrev Mine.vCG:=@Nat.lt_of_succ_lt_succ
abbrev Mine.vCH:=@PySem.wpAny_field
abbrev Mine.vCI:=@Nat.le_antisymm
abbrev Mine.vCJ:=@List.map_map
abbrev Mine.vCK:=@List.getElem?_set
abbrev Mine.vCL:=@List.Sublist.refl
abbrev Mine.vCM:=@List.getLast?_eq_getElem?
abbrev Mine.vCN:=@Array.length_toList
abbrev Mine.vCO:=@PySem.wpAny_mono
abbrev Mine.vCP:=@Nat.lt_of_lt_of_le
abbrev Mine.vCQ:=@List.range_succ
abbrev Mine.vCR:=@List.getElem?_set_self
abbrev Mine.vCS:=@List.drop_eq_nil_of_le
abbrev Mine.vCT:=@PySem.wpAny_pyIter_list
abbrev Mine.vCU:=@PySem.wpAny_assign_Name
abbrev Mine.vCV:=@PySem.wpAny_Assign_Name
abbrev Mine.vCW:=@Nat.le_succ
abbrev Mine.vCX:=@List.size_toArray
abbrev Mine.vCY:=@List.nodup_append
abbrev Mine.vCZ:=@PySem.wpAny_Expr_any
abbrev Mine.vCa:=@PySem.Heap.size_push
abbrev Mine.vCb:=@Int.ofNat_lt
abbrev Mine.vCc:=@Option.elim_some
abbrev Mine.vCd:=@Nat.lt_succ_self
abbrev Mine.vCe:=@List.not_mem_nil
abbrev Mine.vCf:=@Nat.add_le_add_right
abbrev Mine.vCg:=@PyProof.Rows.args_nil
abbrev Mine.vCh:=@Bool.not_true
abbrev Mine.vCi:=@PySem.wpAny_call
abbrev Mine.vCj:=@PySem.wpAny_loadPart'
abbrev Mine.vCk:=@Bool.eq_iff_iff
abbrev Mine.vCl:=@Array.getElem?_eq_some_iff
abbrev Mine.vCm:=@PySem.Obj.data_mapFields
abbrev Mine.vCn:=@Nat.ne_of_lt
abbrev Mine.vCo:=@Bool.false_ne_true
abbrev Mine.vCp:=@Nat.add_le_add
abbrev Mine.vCq:=@Bool.and_false
abbrev Mine.vCr:=@PySem.wpAny_Return_some
abbrev Mine.vCs:=@of_decide_eq_true
abbrev Mine.vCu:=@List.mem_cons
abbrev Mine.vCv:=@List.nodup_cons
open PySem in
abbrev Mine.Ta:=Value -> Shared -> Prop
open PySem in
abbrev Mine.Tb:=Nat -> Value × List Addr
open PySem in
abbrev Mine.Tc:=List (List Nat)
namespace Mine
open PySem PySem.Calls PyProof.Rows PySem.SeqAt PySem.W
set_option maxRecDepth 100000
set_option maxHeartbeats 8000000
variable {name x y:Str} {C H I L Lc b dx pa:Addr} {a1 w w' w0 way:Int} {i ix j k k0z l7 la lv lv' lw n' n0 tk:Nat} {ann:Option Value} {life:Life} {loose nm:List Str} {N S W:Addr -> Prop} {l:List Env} {b' cb h h' h0' h0z h1z h2z h3z:Heap} {o oe ox:Obj} {P prog:Program} {f0 fp mu:List Addr} {vs:List Value} {full hm:Bool} {A:Around} {s' s'' s1z sE:Shared} {env:Env} {vf vf' vf'':Tb} {cap fs o1 o2 occ occE occI:List Nat} {e e1z e2z elt test:Expr} {Q:Unit -> Shared -> Prop} {E:Ta} {es rest:List Expr} {ap apos cp np pos px tp:Pos} {K:Frag} {M:Model} {X m' mb mg:Str -> Option Value} {op:List Value -> Sem Value} {T ns ss:List Int} {t:Tok} {hi lo:Option Int} {items vx:Array Value} {sc scope:Scope} {body:List Stmt} {a0 cls:Value} {args:List WData} {fd:FuncData} {ps:List (List (List Nat) × Int)} {params:Arguments} {mean:ExcName -> Option Value} {ws ws':Tc} {pl:Sem Bool} {od:Option Obj}
theorem nos {α:Type} {p:Prop} {x:α} (h:none = some x):p:=(Option.some_ne_none _ h.symm).elim
theorem son {α:Type} {p:Prop} {x:α} (h:some x = none):p:=(Option.some_ne_none _ h).elim
theorem nn {p:Prop} (h:(p -> False) -> False):p:=Classical.byContradiction h
theorem XM {a b:Bool} (h:(a && b) = true):a = true /\ b = true:=by cases a <;> cases b <;> first | exact ⟨rfl,rfl⟩ | cases h
noncomputable def jPU (K:Frag) (D:Addr):Bool :=
 (clsIn K D).isSome && findIn K (.ref D) "__getattribute__" == some (some (.builtin "BaseException.__getattribute__")) && findIn K (.ref D) "__getattr__" == some none &&
 findIn K (.ref D) "__class__" == some (some (.builtin "object.__class__")) && specialIn K (.builtin "object.__class__") "__get__" == some (some (.builtin "getset_descriptor.__get__")) && takesIn K (.builtin "object.__class__") == some true &&
 mroIn K D (.type "object") == some true && subIn K (.ref D) (.type "BaseException") == some true
noncomputable def excNames:List Str:=["WrapError","NoWidth","LongWord","NoStarts","TooWide","TooFew","TooMany","NoPlace","NoWord","Full","NoWayBack"]
noncomputable def qDX (k T:Str):Bool:=k == T || T == ("WrapError":Str)
noncomputable def bmV:List Value:=[.type "ValueError",.type "Exception",.type "BaseException",.type "object"]
def jZG (p:Program) (K:Frag):Bool:=excNames.all fun k=>match nsIn K mainGlobals k with
 | some (some (.ref C))=>jPU K C && specOf p k == some ("ValueError.__new__",bmV) && kitCls K (.ref C) (.type "ValueError") == some true &&
  excNames.all fun k'=>match nsIn K mainGlobals k' with
   | some (some (.ref C'))=>exmOne K (.ref C) (.ref C') == some (qDX k k') && (C != C' || qDX k k')
   | _=>false
 | _=>false
noncomputable def qIH (p:Program) (ks:List Nat):Program:={ p with main:={ p.main with body:=ks.filterMap fun i=>p.main.body[i]? } }
noncomputable def qCN (h:Heap):Frag:=(List.range h.objs.size).filterMap fun a=>(h.get? a).map fun o=>(a,o)
theorem qCM (h:Heap):∀ (l:List Nat) (a:Addr) (o:Obj),(l.filterMap fun a=>(h.get? a).map fun o=>(a,o)).lookup a = some o -> h.get? a = some o:=by
 intro l
 induction l with
 | nil =>
  intro _ _ e
  simp at e
 | cons b l ih =>
  intro a o e
  rw [List.filterMap_cons] at e
  cases hb:h.get? b with
  | none=>rw [hb] at e;exact ih a o e
  | some ob =>
   rw [hb] at e
   simp only [Option.map_some,List.lookup_cons] at e
   split at e
   ·rename_i q
    obtain rfl:=vAy e
    rw [eq_of_beq q];exact hb
   ·exact ih a o e
theorem jSR (h:Heap):(qCN h).In h:=fun a o e=>qCM h _ a o e
def jXF:Program:=qIH pW [1,2,3,4,5,6,7,8,9,10,11,13,14,16,17,18,19,20,22,23,24,26,28,31,32,33,34,35,36,37,38,39,40,41,42,43,44,45,46,47,48,49,50,51,52,53,54,55,56,57]
noncomputable def qHJ:Option Stmt -> List Stmt
 | some (.ClassDef _ _ _ b _ _ _ _ _ _ _)=>b
 | _=>[]
noncomputable def qNQ:Option Stmt -> DefRec
 | some (.FunctionDef name a b _ _ _ sc _ _ pos)=>⟨name,a,b,sc,pos⟩
 | _=>⟨Str.empty,⟨[],[],none,[],[],none,[]⟩,[],{ kind:=.function,names:=[],isGenerator:=false,isCoroutine:=false },⟨0,0,0,0⟩⟩
def JQ (p:Program) (i:Nat):DefRec:=qNQ p.main.body[i]?
def jFB (p:Program) (i k:Nat):DefRec:=qNQ (qHJ p.main.body[i]?)[k]?
noncomputable def qCD (q:Str) (d:DefRec) (pm code doc:Value):FuncData:={ docDef d.name d.params d.body d.scope pm code doc with qualname:=q }
noncomputable def pageMeths:List (Str × Nat):=[("__init__",0),("change",1),("put",2),("drop",3),("widen",4),("undo",5),("words_now",6),("width_now",7),("table_now",8),("starts_now",9),("lines_now",10)]
noncomputable def jOW (x:Str):Str:="Page." ++ x
noncomputable def jXA (x:Option (Option Value)):Option Addr:=match x with
 | some (some (.ref f))=>some f
 | _=>none
theorem zn {x:Option (Option Value)} {f:Addr} (h:jXA x = some f):x = some (some (.ref f)):=by
 rcases x with _ | _ | v <;> first | exact nos h | skip
 cases v <;> first | exact nos h | rw [vAy h]
noncomputable def qMX (x:Option Obj):Option FuncData:=match x with
 | some o=>(match o.data with
  | .func fd=>some fd
  | _=>none)
 | _=>none
noncomputable def qKC (x:Option Obj):Option (Array Value):=match x with
 | some o=>(match o.data with
  | .fields vs=>some vs
  | _=>none)
 | _=>none
noncomputable def qIO (x:Option Value):Option Str:=match x with
 | some (.str q _)=>some q
 | _=>none
def jYC (K:Frag) (C:Addr) (x:Str):Option FuncData:=(jXA (findIn K (.ref C) x)).bind fun f=>(qMX (K.lookup f)).map fun fd=>{ fd with doc:=.none,pyModule:=.none,code:=.none }
def qKQ (K:Frag) (C:Addr) (x:Str):Option Str:=(jXA (findIn K (.ref C) x)).bind fun f=>if typeIn K (.ref f) = some (.type "function") then (qMX (K.lookup f)).bind fun fd=>(jXA (some (some fd.code))).bind fun c=>(qKC (K.lookup c)).bind fun vs=>qIO vs[1]? else none
def jZY (K:Frag) (C:Addr) (x:Str):Bool:=qKQ K C x == some (jOW x)
def qBM (K:Frag) (C:Addr):Bool :=
 findIn K (.ref C) "__getattribute__" == some (some (.builtin "object.__getattribute__")) && findIn K (.ref C) "__getattr__" == some none &&
 findIn K (.ref C) "__setattr__" == some (some (.builtin "object.__setattr__")) && (clsIn K C).any (·.hasDict) && plainOver K C && makesIn K C &&
 (["kept","wide","past"]:List Str).all (fun x=>findIn K (.ref C) x == some none) && pageMeths.all fun x=>jZY K C x.1
def qJC (K:Frag):Option Addr:=jXA (nsIn K mainGlobals "Page")
structure PageK (h:Heap) (P:Program) (i:Nat) (K:Frag) (C:Addr):Prop where
 kin:K.In h
 ns:nsIn K mainGlobals "Page" = some (some (.ref C))
 chk:qBM K C = true
 fd:∀ x k,(x,k) ∈ pageMeths -> jYC K C x = some (qCD (jOW x) (jFB P i k) .none .none .none)
def jOX (p P:Program) (i:Nat):Hook where
 α:=Bool × Option (List (Option FuncData))
 obs:=fun s=>let K:=qCN s.heap;(jZG p K && (qJC K).any fun C=>qBM K C,(qJC K).map fun C=>pageMeths.map fun x=>jYC K C x.1)
 val:=fun _=>(true,some (pageMeths.map fun x=>some (qCD (jOW x.1) (jFB P i x.2) .none .none .none)))
 says:=fun _ h=>∃ K C,(K.In h /\ jZG p K = true) /\ PageK h P i K C
 of:=fun _ s e=>by
  refine nn fun gN=>?_
  obtain ⟨e1,e2⟩:=Prod.mk.inj e
  obtain ⟨e3,e4⟩:=XM e1
  obtain ⟨C,h1,h2⟩:=vBD.mp e2
  rw [h1] at e4
  refine gN ?_
  clear gN
  refine ⟨qCN s.heap,C,⟨jSR _,e3⟩,jSR _,?_,e4,fun x k hx=>?_⟩
  ·exact zn h1
  ·have:=List.map_inj_left.mp (show pageMeths.map (fun x=>jYC (qCN s.heap) C x.1) = pageMeths.map fun x=>some (qCD (jOW x.1) (jFB P i x.2) .none .none .none) from h2) (x,k) hx
   exact this
 keeps:=fun _ _ _ ⟨K,C,⟨h1,h2⟩,h3⟩ k=>⟨K,C,⟨fun a o e=>k a o (h1 a o e),h2⟩,⟨fun a o e=>k a o (h3.kin a o e),h3.ns,h3.chk,h3.fd⟩⟩
noncomputable def qLF (st:SharedT -> Thread -> Option (SharedT × Thread)) (n0:Nat) (ann:Option Value) (n:Nat):SharedT -> Thread -> Option SharedT :=
 Nat.rec (motive:=fun _=>SharedT -> Thread -> Option SharedT) (fun _ _=>none)
  (fun _ ih s t=>match through t with
   | true=>some s
   | false=>match stepOk n0 ann t with
    | false=>none
    | true=>match st s t with
     | some (s',t')=>ih s' t'
     | none=>none) n
theorem qFL {tb:String -> Option Builtin} {p:Program} {w:World}:∀ {n:Nat} {s s':SharedT} {t:Thread},qLF (stepT (denote tb) p w) n0 ann n s t = some s' -> topRun tb p w n0 ann n s.abs t = some s'.abs:=by
 intro n
 induction n with
 | zero =>
  intro _ _ _ h
  exact nomatch h
 | succ n ih =>
  intro s s' t h
  have e:qLF (stepT (denote tb) p w) n0 ann (n + 1) s t = (match through t with
   | true=>some s
   | false=>match stepOk n0 ann t with
    | false=>none
    | true=>match stepT (denote tb) p w s t with
     | some (s',t')=>qLF (stepT (denote tb) p w) n0 ann n s' t'
     | none=>none):=rfl
  rw [e] at h
  unfold topRun
  cases ht:through t with
  | true=>rw [ht] at h;obtain rfl:=vAy h;rfl
  | false =>
   rw [ht] at h
   cases hk:stepOk n0 ann t with
   | false=>rw [hk] at h;cases h
   | true =>
    rw [hk] at h
    cases hs:stepT (denote tb) p w s t with
    | none=>rw [hs] at h;cases h
    | some r=>obtain ⟨s2z,t2z⟩:=r;rw [hs] at h;dsimp only;rw [stepT_spec hs];exact ih h
noncomputable def qEZ (l:List Obj):Nat -> BT -> Option (BT × Nat) :=
 List.rec (motive:=fun _=>Nat -> BT -> Option (BT × Nat)) (fun n t=>some (t,n))
  (fun o _ ih n t=>match ((t.ins n o).get n).isSome with
   | true=>ih (n + 1) (t.ins n o)
   | false=>none) l
theorem qBA:∀ {l:List Obj} {n m:Nat} {t t':BT} {l0z:List Obj},absHeap t n life = ⟨l0z.toArray,life⟩ -> qEZ l n t = some (t',m) -> absHeap t' m life = ⟨(l0z ++ l).toArray,life⟩:=by
 intro l
 induction l with
 | nil =>
  intro n m t t' l0z h0 h
  have e:some (t,n) = some (t',m):=h
  cases e;rw [List.append_nil];exact h0
 | cons o l ih =>
  intro n m t t' l0z h0 h
  have e:(match ((t.ins n o).get n).isSome with
   | true=>qEZ l (n + 1) (t.ins n o)
   | false=>none) = some (t',m):=h
  cases hs:((t.ins n o).get n).isSome with
  | false=>rw [hs] at e;cases e
  | true =>
   rw [hs] at e
   have h1:absHeap (t.ins n o) (n + 1) life = ⟨(l0z ++ [o]).toArray,life⟩:=by
    rw [absHeap_ins hs,h0]
    show Heap.mk (l0z.toArray.push o) life = _
    rw [List.push_toArray]
   have:=ih h1 e
   rw [this,vCC];rfl
noncomputable def jRO (p q:Program) (loose:List Str) (Xt:Shared -> Bool) {α:Type} (Yf:Shared -> α) (g0:Bool) (h0z:Heap) (s:Shared) :=
 (staticsOk (importedModules p.main.body) h0z s.heap && namesBound p s.heap && gensDone s && laidKept h0z s.heap,openSeen q loose (importedModules p.main.body) Xt g0 s,Yf s)
theorem jLP {p q:Program} {Xt:Shared -> Bool} {α:Type} {Yf:Shared -> α} {Ya:World -> α} {N:Nat} 
  {st:World -> SharedT -> Thread -> Option (SharedT × Thread)} (hst:∀ w,st w = stepT (denote treeTable) p w)
  (e:opening p = plainProg p.main.scope.names) (hN:Nat.ble 600 N = true) (f:∀ s,fenceModules? p s = some s)
  (hl:∀ w:World,(boot_heap w.params).life = life)
  (size:∀ w:World,((boot_heap w.params).isNs mainGlobals,(boot_heap w.params).objs.size,(boot_heap w.params).nsMap mainGlobals "__annotations__") = (true,n0,ann))
  (run:∀ (w:World) (os:OsState),((qEZ (boot_heap w.params).objs.toList 0 .nil).bind fun T=>(qLF (st w) n0 ann N ⟨T.1,T.2,life,#[],boot_drawn,boot_toks,os⟩ (topStub p)).map fun s=>jRO p q loose Xt Yf true (boot_heap w.params) s.abs) = some (true,openGood q loose,Ya w)) :
  LeftO p q loose Xt Yf Ya N:=fun w=>by
 obtain ⟨⟨h,gs,d,k,os⟩,e1,e'⟩:=vBD.mp (boot_open e hN f w)
 obtain ⟨rfl,rfl,rfl,rfl⟩:h = boot_heap w.params /\ gs = Array.mk [] /\ d = boot_drawn /\ k = boot_toks:=by simpa using e'
 obtain ⟨z1,z2,z3⟩:_ /\ _ /\ _:=by simpa only [Prod.mk.injEq] using size w
 obtain ⟨⟨T,m⟩,t1,t2⟩:=vBG.mp (run w os)
 obtain ⟨s',t3,t4⟩:=vBD.mp t2
 rw [hst w] at t3
 have hb:absHeap T m life = boot_heap w.params:=by
  have:=qBA (life:=life) (l0z:=[]) (t:=.nil) (n:=0) rfl t1
  rw [this,<- hl w]
  rfl
 have r:=qFL t3
 have ha:SharedT.abs ⟨T,m,life,#[],boot_drawn,boot_toks,os⟩ = ⟨boot_heap w.params,#[],boot_drawn,boot_toks,os⟩:=by
  unfold SharedT.abs;dsimp only;rw [hb]
 rw [ha] at r
 unfold jRO at t4
 obtain ⟨l1,l2,l3⟩:_ /\ _ /\ _:=by simpa only [Prod.mk.injEq] using t4
 have t:topFrom treeTable p w N ⟨boot_heap w.params,#[],boot_drawn,boot_toks,os⟩ = some s'.abs:=by
  unfold topFrom
  dsimp only
  rw [z1,z2,z3,r]
  show (match staticsOk (importedModules p.main.body) (boot_heap w.params) s'.abs.heap && namesBound p s'.abs.heap && gensDone s'.abs && laidKept (boot_heap w.params) s'.abs.heap with | true=>_ | false=>_) = _
  rw [l1]
 unfold openEnds
 rw [e1]
 show (topFrom treeTable p w N _).map _ = _
 rw [t]
 exact congrArg some (Prod.ext l2 l3)
abbrev qIE:Shared -> Bool:=fun s=>xlAt jXF [] s && recOk (RowW.records (OpenRow.toRowW PySem.Challenge.rw_uf040006_14.row)) s
theorem qGD:LeftO pR jXF ["Page"] qIE (Hook.obs (jOX jXF pW 29)) (Hook.val (jOX jXF pW 29)) 9000 :=
 jLP (n0:=11) (ann:=some (.ref 6)) (life:={}) (st:=fun w=>PySem.W.Fast.tw10156331382660048174 (PySem.W.Fast.tw11892475500146522536 PySem.W.Fast.tw14364793385576792824) pR w)
  (fun w=>by rw [PySem.W.Fast.te10156331382660048174,PySem.W.Fast.te11892475500146522536,PySem.W.Fast.te14364793385576792824]) (by kernel_rfl) (by decide) (fun s=>by kernel_rfl) (fun w=>by kernel_rfl) (fun w=>by kernel_rfl) (fun w os=>by kernel_rfl)
noncomputable abbrev LX:=Int.Internal.Linear.Expr
noncomputable abbrev LX.n (k:Nat):LX:=Int.Internal.Linear.Expr.num (Int.ofNat k)
noncomputable abbrev LX.v (i:Nat):LX:=Int.Internal.Linear.Expr.var i
noncomputable abbrev LX.a (x y:LX):LX:=Int.Internal.Linear.Expr.add x y
noncomputable abbrev LX.s (x y:LX):LX:=Int.Internal.Linear.Expr.sub x y
noncomputable abbrev LX.g (x:LX):LX:=Int.Internal.Linear.Expr.neg x
noncomputable abbrev LX.m (k:Nat) (x:LX):LX:=Int.Internal.Linear.Expr.mulL (Int.ofNat k) x
noncomputable def dN (Z:List Nat) (e:LX):Nat:=Int.Internal.Linear.Expr.rec (fun v=>v.toNat) (fun i=>Z.getD i 0) (fun _ _ x y=>x + y) (fun _ _ x _=>x) (fun _ x=>x) (fun k _ x=>k.toNat * x) (fun _ _ x=>x) e
noncomputable def dZ (b:Bool) (Z:List Int) (e:LX):Int:=Int.Internal.Linear.Expr.rec (fun v=>(v.toNat:Int)) (fun i=>Z.getD i 0) (fun _ _ x y=>x + y) (fun _ _ x y=>bif b then x else x - y) (fun _ x=>bif b then x else -x) (fun k _ x=>(k.toNat:Int) * x) (fun _ _ x=>x) e
noncomputable def cf (b:Bool) (e:LX):Nat -> Int:=Int.Internal.Linear.Expr.rec (fun v j=>bif Nat.beq j 0 then (v.toNat:Int) else 0) (fun i j=>bif Nat.beq (i + 1) j then 1 else 0) (fun _ _ x y j=>x j + y j) (fun _ _ x y j=>bif b then x j else x j - y j) (fun _ x j=>bif b then x j else 0 - x j) (fun k _ x j=>(k.toNat:Int) * x j) (fun _ _ x j=>x j) e
def qOT (Z:List Nat) (l r:LX) (h:List (LX × LX)):Prop:=List.rec (dN Z l <= dN Z r) (fun p _ t=>dN Z p.1 <= dN Z p.2 -> t) h
def qMW (b:Bool) (Z:List Int) (l r:LX) (h:List (LX × LX)):Prop:=List.rec (dZ b Z l <= dZ b Z r) (fun p _ t=>dZ b Z p.1 <= dZ b Z p.2 -> t) h
noncomputable def tS (f:LX -> Int) (l r:LX) (h:List (LX × LX)):Int:=List.rec (f l - f r) (fun p _ t=>t - (f p.1 - f p.2)) h
noncomputable def sL (Z:List Int) (f:Nat -> Int):Int:=List.rec (fun _=>0) (fun x _ r f=>f 0 * x + r (fun j=>f (j + 1))) Z f
noncomputable def ckL {α:Type} (b:Bool) (Z:List α) (f:Nat -> Int):Bool:=List.rec (fun _=>true) (fun _ _ r f=>bif (bif b then Int.ble' (f 0) 0 else Int.beq' (f 0) 0) then r (fun j=>f (j + 1)) else false) Z f
def ck {α:Type} (b:Bool) (Z:List α) (l r:LX) (h:List (LX × LX)):Bool:=bif Int.ble' (tS (fun e=>cf b e 0) l r h) 0 then ckL b Z (fun j=>tS (fun e=>cf b e (j + 1)) l r h) else false
theorem qDZ (Z:List Int):∀ f g,sL Z (fun j=>f j + g j) = sL Z f + sL Z g:=by
 induction Z with
 | nil=>exact fun _ _=>rfl
 | cons x t ih =>
  intro f g
  show (f 0 + g 0) * x + sL t (fun j=>f (j + 1) + g (j + 1)) = f 0 * x + sL t _ + (g 0 * x + sL t _)
  rw [ih,Int.add_mul,Int.add_assoc,Int.add_assoc,Int.add_left_comm (g 0 * x)]
theorem qIT (k:Int) (Z:List Int):∀ f,sL Z (fun j=>k * f j) = k * sL Z f:=by
 induction Z with
 | nil=>exact fun _=>(Int.mul_zero k).symm
 | cons x t ih=>exact fun f=>(congr (congrArg _ (Int.mul_assoc ..)) (ih _)).trans (Int.mul_add ..).symm
theorem jRY (Z:List Int) (f g):sL Z (fun j=>f j - g j) = sL Z f - sL Z g:=by
 have:=qDZ Z (fun j=>f j - g j) g
 simp only [Int.sub_add_cancel] at this
 rw [this,Int.add_sub_cancel]
theorem qLU (Z:List Int):sL Z (fun _=>0) = 0:=by
 induction Z with
 | nil=>rfl
 | cons x t ih=>exact (congr (congrArg (· + ·) (Int.zero_mul x)) ih)
theorem qOA (Z:List Int):∀ i,sL Z (fun j=>bif Nat.beq i j then 1 else 0) = Z.getD i 0:=by
 induction Z with
 | nil=>exact fun _=>rfl
 | cons x t ih =>
  intro i
  cases i with
  | zero=>exact (congr (congrArg _ (Int.one_mul x)) (qLU t)).trans (Int.add_zero x)
  | succ i=>exact (congr (congrArg _ (Int.zero_mul x)) (ih i)).trans (Int.zero_add _)
theorem qOB (k:Int) (Z:List Int):sL (1 :: Z) (fun j=>bif Nat.beq j 0 then k else 0) = k:=
 (congr (congrArg _ (Int.mul_one k)) (qLU Z)).trans (Int.add_zero k)
theorem qKH (b:Bool) (Z:List Int) (e:LX):dZ b Z e = sL (1 :: Z) (cf b e):=by
 induction e with
 | num v=>exact (qOB v.toNat Z).symm
 | var i=>exact (qOA (1 :: Z) (i + 1)).symm
 | add x y hx hy=>exact (congr (congrArg _ hx) hy).trans (qDZ ..).symm
 | sub x y hx hy=>cases b with
  | true=>exact hx
  | false=>exact (congr (congrArg _ hx) hy).trans (jRY ..).symm
 | neg x hx=>cases b with
  | true=>exact hx
  | false=>exact (Int.zero_sub _).symm.trans ((congr (congrArg (· - ·) (qLU _).symm) hx).trans (jRY _ (fun _=>0) _).symm)
 | mulL k x hx=>exact (congrArg _ hx).trans (qIT ..).symm
 | mulR x k hx=>exact hx
theorem qLO (b:Bool) (Z:List Int) (l r:LX) (h:List (LX × LX)):tS (dZ b Z) l r h = sL (1 :: Z) (fun j=>tS (fun e=>cf b e j) l r h):=by
 have e:=fun l r=>(congr (congrArg (fun x y:Int=>x - y) (qKH b Z l)) (qKH b Z r)).trans (jRY ..).symm
 induction h with
 | nil=>exact e l r
 | cons p t ih=>exact (congr (congrArg _ ih) (e p.1 p.2)).trans (jRY ..).symm
theorem qGJ (b:Bool) (Z:List Int) (l r:LX) (h:List (LX × LX)) (H:tS (dZ b Z) l r h <= 0):qMW b Z l r h:=by
 induction h with
 | nil=>exact Int.le_of_sub_nonpos H
 | cons p t ih=>exact fun x=>ih (Int.le_trans (Int.le_trans (Int.le_of_eq (Int.sub_zero _).symm) (Int.sub_le_sub_left (Int.sub_nonpos_of_le x) _)) H)
theorem qAN {p q:Bool} (h:(bif p then q else false) = true):p = true /\ q = true:=by
 cases p with
 | true=>exact ⟨rfl,h⟩
 | false=>exact Bool.noConfusion h
theorem qKS (b:Bool) (Z:List Int) (hb:b = true -> ∀ x ∈ Z,0 <= x):∀ f,ckL b Z f = true -> sL Z f <= 0:=by
 induction Z with
 | nil=>exact fun _ _=>Int.le_refl _
 | cons x t ih =>
  intro f h
  refine Int.add_nonpos ?_ (ih (fun e y hy=>hb e y (.tail _ hy)) _ (qAN h).2)
  cases b with
  | true=>exact Int.mul_nonpos_of_nonpos_of_nonneg ((Int.ble'_eq_true ..).mp (qAN h).1) (hb rfl x (.head _))
  | false=>exact Int.le_of_eq ((congrArg (· * x) ((Int.beq'_eq (f 0) 0).mp (qAN h).1)).trans (Int.zero_mul x))
theorem qKR {b:Bool} {Z:List Int} (hb:b = true -> ∀ x ∈ Z,0 <= x) {l r:LX} {h:List (LX × LX)} (H:ck b Z l r h = true):qMW b Z l r h :=
 qGJ b Z l r h (Int.le_trans (Int.le_of_eq (qLO b Z l r h)) (Int.add_nonpos (Int.le_trans (Int.le_of_eq (Int.mul_one _)) ((Int.ble'_eq_true ..).mp (qAN H).1)) (qKS b Z hb _ (qAN H).2)))
theorem lZ (Z:List Int) (l r:LX) (h:List (LX × LX)) (H:ck false Z l r h = true):qMW false Z l r h:=qKR (fun e=>Bool.noConfusion e) H
theorem lN (Z:List Nat) (l r:LX) (h:List (LX × LX)) (H:ck true Z l r h = true):qOT Z l r h:=by
 have hc:∀ f,ckL true (Z.map Int.ofNat) f = ckL true Z f:=by
  clear H
  induction Z with
  | nil=>exact fun _=>rfl
  | cons x t ih=>exact fun f=>congrArg (fun z=>bif Int.ble' (f 0) 0 then z else false) (ih _)
 have hv:∀ i,((Z.getD i 0:Nat):Int) = (Z.map Int.ofNat).getD i 0:=by
  clear H hc
  induction Z with
  | nil=>exact fun _=>rfl
  | cons x t ih=>exact fun i=>by cases i with | zero=>rfl | succ i=>exact ih i
 have hd:∀ e,((dN Z e:Nat):Int) = dZ true (Z.map Int.ofNat) e:=fun e=>by
  induction e with
  | num v=>rfl
  | var i=>exact hv i
  | add x y hx hy=>exact congr (congrArg (fun x y:Int=>x + y) hx) hy
  | sub x y hx hy=>exact hx
  | neg x hx=>exact hx
  | mulL k x hx=>exact congrArg (fun x=>(k.toNat:Int) * x) hx
  | mulR x k hx=>exact hx
 have K:=qKR (b:=true) (Z:=Z.map Int.ofNat) (fun _ x hx=>by obtain ⟨n,_,e⟩:=vBa.mp hx;exact e ▸ vBi n) (l:=l) (r:=r) (h:=h) (by unfold ck at H ⊢;rw [hc];exact H)
 clear H hc hv
 induction h with
 | nil=>exact Int.ofNat_le.mp (by rw [hd,hd];exact K)
 | cons p t ih=>exact fun x=>ih (K (by rw [<- hd,<- hd];exact Int.ofNat_le.mpr x))
theorem fN {Z:List Nat} (h:dN Z (.n 1) <= dN Z (.n 0)):False:=Nat.not_succ_le_zero 0 h
theorem fZ {Z:List Int} (h:dZ false Z (.n 1) <= dZ false Z (.n 0)):False:=absurd (show (1:Int) <= 0 from h) (by decide)
theorem rT:true = true:=rfl
theorem zL {a b:Nat} (h:a <= b):(a:Int) <= b:=Int.ofNat_le.mpr h
theorem zT {a b:Nat} (h:a < b):(a:Int) < b:=vCb.mpr h
theorem nL {a b:Nat} (h:(a:Int) <= b):a <= b:=Int.ofNat_le.mp h
theorem nT {a b:Nat} (h:(a:Int) < b):a < b:=vCb.mp h
theorem zP {x:Int} (h:0 <= x):(x.toNat:Int) <= x:=Int.le_of_eq (vCE h)
theorem sA (a b:Nat):a <= a - b + b:=Nat.sub_le_iff_le_add.mp (vBI _)
theorem sB {a b:Nat} (h:b <= a):a - b + b <= a:=vBs (Nat.sub_add_cancel h)
def yG (k:Lean.Name) (a:Array Lean.Syntax):Lean.Syntax:=.node .none k a
def yS (a:Array Lean.Syntax):Lean.Syntax:=yG `Lean.Parser.Tactic.tacticSeq #[yG `Lean.Parser.Tactic.tacticSeq1Indented #[yG `null a]]
def yA (k:Lean.Name) (s:String):Lean.Syntax:=yG k #[.atom .none s]
def yR:Lean.Syntax:=yA `Lean.Parser.Tactic.tacticRfl "rfl"
def yI (a:Array Lean.Syntax):Lean.Syntax:=yG `Lean.Parser.Tactic.intro #[.atom .none "intro",yG `null a]
def yH:Lean.Syntax:=yA `Lean.Parser.Term.hole "_"
def yC:Lean.Syntax:=.atom .none ";"
def yO:Lean.Syntax:=yG `null #[]
def yF:Lean.Syntax:=yG `Lean.Parser.Tactic.optConfig #[yO]
def yK:Lean.Syntax:=yS #[yA `tacticKernel_rfl "kernel_rfl"]
def yL:Lean.Syntax:=yS #[yR]
def yM:Lean.Syntax:=yS #[yI #[yH],yC,yR]
def yN:Lean.Syntax:=yS #[yI #[yH,yH],yC,yR]
def yD:Lean.Syntax:=yS #[yG `Lean.Parser.Tactic.decide #[.atom .none "decide",yF]]
def yU (s:String):Lean.Syntax:=.ident .none s.toRawSubstring s.toName []
def yE:Lean.Syntax:=yS #[yI #[yH,yU "h"],yC,yG `Lean.Parser.Tactic.unfold #[.atom .none "unfold",yG `null #[yU "interactive"],yO],yC,yG `Lean.Parser.Tactic.rwSeq #[.atom .none "rw",yF,yG `Lean.Parser.Tactic.rwRuleSeq #[.atom .none "[",yG `null #[yG `Lean.Parser.Tactic.rwRule #[yO,yU "h"]],.atom .none "]"],yO],yC,yR]
theorem ifs {α:Type} {p:Prop} [d:Decidable p] {x:Option α} {r:α} (h:(if p then x else none) = some r):p /\ x = some r:=by
 cases d with
 | isTrue q=>exact ⟨q,h⟩
 | isFalse q=>exact nos h
theorem bft {p:Prop} (h:false = true):p:=by cases h
inductive D where
 | none
 | bool (b:Bool)
 | int (i:Int)
 | str (s:List Nat)
 | list (xs:List D)
 | tup (xs:List D)
 | exc (k:Str)
 | ob (a:Addr)
mutual
noncomputable def D.py:D -> PyData
 | .none=>.none
 | .bool b=>.bool b
 | .int i=>.int i
 | .str s=>.str ⟨s.toArray⟩
 | .list xs=>.list (D.pys xs)
 | .tup xs=>.tuple (D.pys xs)
 | .exc _=>.none
 | .ob _=>.none
noncomputable def D.pys:List D -> List PyData
 | []=>[]
 | x :: xs=>D.py x :: D.pys xs
end
mutual
noncomputable def D.flat:D -> Bool
 | .list _=>false
 | .tup xs=>D.flats xs
 | _=>true
noncomputable def D.flats:List D -> Bool
 | []=>true
 | x :: xs=>D.flat x && D.flats xs
end
mutual
noncomputable def D.plain:D -> Bool
 | .exc _=>false
 | .ob _=>false
 | .list xs=>D.plains xs
 | .tup xs=>D.plains xs
 | _=>true
noncomputable def D.plains:List D -> Bool
 | []=>true
 | x :: xs=>D.plain x && D.plains xs
end
variable {Ps:List Value -> List D -> List Addr -> Prop} {d:D} {ds hs ys:List D} {x12 x3:Option (D × Nat)}
def JW (o:Obj):Prop:=∀ es n,o.data ≠ .dict es n
mutual
inductive Rp (X:Str -> Option Value) (h:Heap):Value -> D -> List Addr -> Prop
 | none:Rp X h .none .none []
 | bool (b:_):Rp X h (.bool b) (.bool b) []
 | int (i t:_):Rp X h (.int i t) (.int i) []
 | str (s t:_):Rp X h (.str ⟨List.toArray s⟩ t) (.str s) []
 | list {a o vs n xs fp:_}:h.get? a = some o -> o.cls = .type "list" -> o.data = .seq vs n -> Rps X h vs.toList xs fp -> Rp X h (.ref a) (.list xs) (a :: fp)
 | tup {a o vs n xs fp:_}:h.get? a = some o -> o.cls = .type "tuple" -> o.data = .seq vs n -> Rps X h vs.toList xs fp -> Rp X h (.ref a) (.tup xs) fp
 | exc {a C o vs k:_}:X k = some (.ref C) -> h.get? a = some o -> o.cls = .ref C -> o.data = .fields vs /\ o.dict = none -> Rp X h (.ref a) (.exc k) []
 | ob (a:_):Rp X h (.ref a) (.ob a) []
inductive Rps (X:Str -> Option Value) (h:Heap):List Value -> List D -> List Addr -> Prop
 | nil:Rps X h [] [] []
 | cons {v vs d ds f g:_}:Rp X h v d f -> Rps X h vs ds g -> Rps X h (v :: vs) (d :: ds) (f ++ g)
end
theorem JS {vs} (h:o.data = .fields vs):JW o:=fun es m e=>by rw [h] at e;cases e
theorem JK {vs n} (h:o.data = .seq vs n):JW o:=fun es m e=>by rw [h] at e;cases e
theorem Rp.both {P:Value -> D -> List Addr -> Prop} 
  (h0:P .none .none []) (h1:∀ b,P (.bool b) (.bool b) []) (h2:∀ i t,P (.int i t) (.int i) []) (h3:∀ s t,P (.str ⟨List.toArray s⟩ t) (.str s) [])
  (h4:∀ {a o vs n xs fp},h.get? a = some o -> o.cls = .type "list" -> o.data = .seq vs n -> Ps vs.toList xs fp -> P (.ref a) (.list xs) (a :: fp))
  (h5:∀ {a o vs n xs fp},h.get? a = some o -> o.cls = .type "tuple" -> o.data = .seq vs n -> Ps vs.toList xs fp -> P (.ref a) (.tup xs) fp)
  (h6:∀ {a C o vs k},X k = some (.ref C) -> h.get? a = some o -> o.cls = .ref C -> o.data = .fields vs /\ o.dict = Option.none -> P (.ref a) (.exc k) []) (h9:∀ a,P (.ref a) (.ob a) [])
  (h7:Ps [] [] []) (h8:∀ {v vs d ds f g},P v d f -> Ps vs ds g -> Ps (v :: vs) (d :: ds) (f ++ g)) :
  (∀ {v d fp},Rp X h v d fp -> P v d fp) /\ (∀ {vs ds fp},Rps X h vs ds fp -> Ps vs ds fp) :=
 ⟨fun r=>Rp.rec (motive_1:=fun v d f _=>P v d f) (motive_2:=fun v d f _=>Ps v d f) h0 h1 h2 h3 (fun a b c _ i=>h4 a b c i) (fun a b c _ i=>h5 a b c i) (fun a b c d=>h6 a b c d) h9 h7 (fun _ _ i j=>h8 i j) r,
  fun r=>Rps.rec (motive_1:=fun v d f _=>P v d f) (motive_2:=fun v d f _=>Ps v d f) h0 h1 h2 h3 (fun a b c _ i=>h4 a b c i) (fun a b c _ i=>h5 a b c i) (fun a b c d=>h6 a b c d) h9 h7 (fun _ _ i j=>h8 i j) r⟩
theorem Rps.ind (h7:Ps [] [] []) (h8:∀ {v vs d ds f g},Rp X h v d f -> Rps X h vs ds g -> Ps vs ds g -> Ps (v :: vs) (d :: ds) (f ++ g)) :
  ∀ {vs ds fp},Rps X h vs ds fp -> Ps vs ds fp :=
 fun r=>Rps.rec (motive_1:=fun _ _ _ _=>True) (motive_2:=fun v d f _=>Ps v d f) trivial (fun _=>trivial) (fun _ _=>trivial) (fun _ _=>trivial) (fun _ _ _ _ _=>trivial) (fun _ _ _ _ _=>trivial) (fun _ _ _ _=>trivial) (fun _=>trivial) h7 (fun r rs _ j=>h8 r rs j) r
inductive RpL (X:Str -> Option Value) (h:Heap) (xs:List D):Value -> List Addr -> Prop
 | mk {a o vs n fp:_} (h1:h.get? a = some o) (h2:o.cls = .type "list") (h3:o.data = .seq vs n) (h4:Rps X h vs.toList xs fp):RpL X h xs (.ref a) (a :: fp)
inductive RpT (X:Str -> Option Value) (h:Heap) (xs:List D):Value -> List Addr -> Prop
 | mk {a o vs n fp:_} (h1:h.get? a = some o) (h2:o.cls = .type "tuple") (h3:o.data = .seq vs n) (h4:Rps X h vs.toList xs fp):RpT X h xs (.ref a) fp
inductive RpX (X:Str -> Option Value) (h:Heap) (k:Str):Value -> List Addr -> Prop
 | mk {a C o vs:_} (h0:X k = some (.ref C)) (h1:h.get? a = some o) (h2:o.cls = .ref C) (h3:o.data = .fields vs) (h4:o.dict = none):RpX X h k (.ref a) []
def RpI (X:Str -> Option Value) (h:Heap) (v:Value) (d:D) (fp:List Addr):Prop :=
 D.casesOn (motive_1:=fun _=>Prop) d (v = .none /\ fp = []) (fun b=>v = .bool b /\ fp = []) (fun i=>∃ t,v = .int i t /\ fp = []) (fun s=>∃ t,v = .str ⟨List.toArray s⟩ t /\ fp = [])
  (fun xs=>RpL X h xs v fp) (fun xs=>RpT X h xs v fp) (fun k=>RpX X h k v fp) (fun a=>v = .ref a /\ fp = [])
theorem Rp.inv {v:Value} (r:Rp X h v d fp):RpI X h v d fp :=
 Rp.casesOn (motive_1:=fun v d fp _=>RpI X h v d fp) r ⟨rfl,rfl⟩ (fun _=>⟨rfl,rfl⟩) (fun _ t=>⟨t,rfl,rfl⟩) (fun _ t=>⟨t,rfl,rfl⟩) (fun a b c d=>.mk a b c d) (fun a b c d=>.mk a b c d) (fun a b c d=>.mk a b c d.1 d.2) (fun _=>⟨rfl,rfl⟩)
inductive RpsC (X:Str -> Option Value) (h:Heap) (d:D) (ds:List D):List Value -> List Addr -> Prop
 | mk {v vs f g:_} (h1:Rp X h v d f) (h2:Rps X h vs ds g):RpsC X h d ds (v :: vs) (f ++ g)
def qNW (X:Str -> Option Value) (h:Heap) (vs:List Value) (ds:List D) (fp:List Addr):Prop :=
 List.casesOn (motive:=fun _=>Prop) ds (vs = [] /\ fp = []) (fun d ds=>RpsC X h d ds vs fp)
theorem Rps.inv (r:Rps X h vs ds fp):qNW X h vs ds fp :=
 Rps.casesOn (motive_2:=fun vs ds fp _=>qNW X h vs ds fp) r ⟨rfl,rfl⟩ (fun a b=>.mk a b)
theorem Rps.invC (r:Rps X h vs (d :: ds) fp):RpsC X h d ds vs fp:=r.inv
theorem qA (k:∀ b o,¬ W b -> h.get? b = some o -> JW o -> h'.get? b = some o)
  (kt:∀ b o vs n,W b -> h.get? b = some o -> o.cls = .type "tuple" -> o.data ≠ .seq vs n) (kf:∀ b o vs C,W b -> h.get? b = some o -> o.cls = .ref C -> o.data ≠ .fields vs) :
  (∀ {v d fp},Rp X h v d fp -> (∀ a ∈ fp,¬ W a) -> Rp X h' v d fp) /\ (∀ {vs ds fp},Rps X h vs ds fp -> (∀ a ∈ fp,¬ W a) -> Rps X h' vs ds fp) :=
 Rp.both (P:=fun v d fp=>(∀ a ∈ fp,¬ W a) -> Rp X h' v d fp) (Ps:=fun v d fp=>(∀ a ∈ fp,¬ W a) -> Rps X h' v d fp)
  (fun _=>.none) (fun b _=>.bool b) (fun i t _=>.int i t) (fun s t _=>.str s t)
  (fun h1 h2 h3 r hw=>.list (k _ _ (hw _ (vBA ..)) h1 (JK h3)) h2 h3 (r fun a ha=>hw a (vBC _ ha)))
  (fun h1 h2 h3 r hw=>.tup (k _ _ (fun w=>kt _ _ _ _ w h1 h2 h3) h1 (JK h3)) h2 h3 (r hw))
  (fun h0 h1 h2 h3 _=>.exc h0 (k _ _ (fun w=>kf _ _ _ _ w h1 h2 h3.1) h1 (JS h3.1)) h2 h3) (fun a _=>.ob a)
  (fun _=>.nil) (fun r rs hw=>.cons (r fun a ha=>hw a (vBU _ ha)) (rs fun a ha=>hw a (vBQ _ ha)))
theorem Rp.keepOn (k:∀ b o,¬ W b -> h.get? b = some o -> JW o -> h'.get? b = some o) (kt:∀ b o,W b -> h.get? b = some o -> ∃ T,o.cls = .type T /\ T ≠ "tuple") {v d fp} (r:Rp X h v d fp) (hw:∀ a ∈ fp,¬ W a):Rp X h' v d fp :=
 (qA k (fun b o _ _ w e hc _=>by obtain ⟨T,q,hT⟩:=kt b o w e;rw [hc] at q;injection q with q;exact hT q.symm) (fun b o _ _ w e hc _=>by obtain ⟨T,q,_⟩:=kt b o w e;rw [hc] at q;cases q)).1 r hw
theorem Rps.keepOn (k:∀ b o,¬ W b -> h.get? b = some o -> JW o -> h'.get? b = some o) (kt:∀ b o,W b -> h.get? b = some o -> ∃ T,o.cls = .type T /\ T ≠ "tuple") {v d fp} (r:Rps X h v d fp) (hw:∀ a ∈ fp,¬ W a):Rps X h' v d fp :=
 (qA k (fun b o _ _ w e hc _=>by obtain ⟨T,q,hT⟩:=kt b o w e;rw [hc] at q;injection q with q;exact hT q.symm) (fun b o _ _ w e hc _=>by obtain ⟨T,q,_⟩:=kt b o w e;rw [hc] at q;cases q)).2 r hw
theorem Rp.keep (k:∀ b o,h.get? b = some o -> JW o -> h'.get? b = some o) {v d fp} (r:Rp X h v d fp):Rp X h' v d fp :=
 r.keepOn (W:=fun _=>False) (fun b o _=>k b o) (fun _ _ w=>w.elim) fun _ _ w=>w
theorem Rps.keep (k:∀ b o,h.get? b = some o -> JW o -> h'.get? b = some o) {v d fp} (r:Rps X h v d fp):Rps X h' v d fp :=
 r.keepOn (W:=fun _=>False) (fun b o _=>k b o) (fun _ _ w=>w.elim) fun _ _ w=>w
inductive FpL (h:Heap) (a:Addr):Prop
 | mk (o:Obj) (vs:Array Value) (n:Nat) (h1:h.get? a = some o) (h2:o.cls = .type "list") (h3:o.data = .seq vs n):FpL h a
theorem rp_fp:(∀ {v d fp},Rp X h v d fp -> ∀ a ∈ fp,FpL h a) /\ (∀ {vs ds fp},Rps X h vs ds fp -> ∀ a ∈ fp,FpL h a) :=
 Rp.both (P:=fun _ _ fp=>∀ a ∈ fp,FpL h a) (Ps:=fun _ _ fp=>∀ a ∈ fp,FpL h a) (fun _ ha=>nomatch ha) (fun _ _ ha=>nomatch ha) (fun _ _ _ ha=>nomatch ha) (fun _ _ _ ha=>nomatch ha)
  (fun h1 h2 h3 r a ha=>(vCu.mp ha).elim (fun e=>e ▸ .mk _ _ _ h1 h2 h3) (r a)) (fun _ _ _ r=>r) (fun _ _ _ _ _ ha=>nomatch ha) (fun _ _ ha=>nomatch ha) (fun _ ha=>nomatch ha) (fun r rs a ha=>(vBK.mp ha).elim (r a) (rs a))
theorem Rp.fp_list {v d fp} (r:Rp X h v d fp):∀ a ∈ fp,FpL h a:=rp_fp.1 r
theorem Rps.fp_list {v d fp} (r:Rps X h v d fp):∀ a ∈ fp,FpL h a:=rp_fp.2 r
theorem rp_flat:(∀ {v d fp},Rp X h v d fp -> d.flat = true -> fp = []) /\ (∀ {vs ds fp},Rps X h vs ds fp -> D.flats ds = true -> fp = []) :=
 Rp.both (P:=fun _ d fp=>d.flat = true -> fp = []) (Ps:=fun _ ds fp=>D.flats ds = true -> fp = []) (fun _=>rfl) (fun _ _=>rfl) (fun _ _ _=>rfl) (fun _ _ _=>rfl)
  (fun _ _ _ _ hf=>Bool.noConfusion hf) (fun _ _ _ r hf=>r hf) (fun _ _ _ _ _=>rfl) (fun _ _=>rfl) (fun _=>rfl)
  (fun r rs hf=>by rw [r (XM hf).1,rs (XM hf).2];rfl)
theorem Rp.flat_fp {v d fp} (r:Rp X h v d fp):d.flat = true -> fp = []:=rp_flat.1 r
theorem Rps.flat_fp {v d fp} (r:Rps X h v d fp):D.flats d = true -> fp = []:=rp_flat.2 r
theorem Rps.length {vs ds fp} (r:Rps X h vs ds fp):vs.length = ds.length :=
 r.ind (Ps:=fun vs ds _=>vs.length = ds.length) rfl (fun _ _ ih=>congrArg (· + 1) ih)
theorem Rps.append {vs ds f vs' ds' g} (r:Rps X h vs ds f) (r':Rps X h vs' ds' g):Rps X h (vs ++ vs') (ds ++ ds') (f ++ g) :=
 r.ind (Ps:=fun vs ds f=>Rps X h (vs ++ vs') (ds ++ ds') (f ++ g)) r' (fun r _ ih=>by rw [vCC];exact .cons r ih)
theorem Rps.get {vs ds f} (r:Rps X h vs ds f) (hi:ds[i]? = some d):∃ v g,vs[i]? = some v /\ Rp X h v d g /\ ∀ a ∈ g,a ∈ f :=
 r.ind (Ps:=fun vs ds f=>∀ i:Nat,ds[i]? = some d -> ∃ v g,vs[i]? = some v /\ Rp X h v d g /\ ∀ a ∈ g,a ∈ f) (fun _ hi=>nomatch hi)
  (fun r _ ih i=>match i with
   | 0=>fun hi=>⟨_,_,rfl,vAy hi ▸ r,fun a ha=>vBU _ ha⟩
   | i + 1=>fun hi=>let ⟨v,g,h1,h2,h3⟩:=ih i hi;⟨v,g,h1,h2,fun a ha=>vBQ _ (h3 a ha)⟩) i hi
theorem Rps.drop {vs ds f} (i:Nat) (r:Rps X h vs ds f):∃ g,Rps X h (vs.drop i) (ds.drop i) g /\ g.Sublist f :=
 r.ind (Ps:=fun vs ds f=>∀ i:Nat,∃ g,Rps X h (vs.drop i) (ds.drop i) g /\ g.Sublist f) (fun i=>⟨[],by cases i <;> exact .nil,vCL _⟩)
  (fun r rs ih i=>match i with
   | 0=>⟨_,.cons r rs,vCL _⟩
   | i + 1=>let ⟨g,h1,h2⟩:=ih i;⟨g,h1,h2.trans (List.sublist_append_right ..)⟩) i
theorem Rps.take {vs ds f} (i:Nat) (r:Rps X h vs ds f):∃ g,Rps X h (vs.take i) (ds.take i) g /\ g.Sublist f :=
 r.ind (Ps:=fun vs ds f=>∀ i:Nat,∃ g,Rps X h (vs.take i) (ds.take i) g /\ g.Sublist f) (fun i=>⟨[],by cases i <;> exact .nil,vCL _⟩)
  (fun r rs ih i=>match i with
   | 0=>⟨[],.nil,List.nil_sublist _⟩
   | i + 1=>let ⟨g,h1,h2⟩:=ih i;⟨_,.cons r h1,List.Sublist.append (vCL _) h2⟩) i
structure Kp (L:Addr) (h h':Heap):Prop where
 obj:∀ b o,b ≠ L -> h.get? b = some o -> JW o -> h'.get? b = some o
 dct:∀ b o,b ≠ L -> h.get? b = some o -> ∃ sl,h'.get? b = some { o with slots:=sl }
 ns:∀ m,h.Ns L m -> h'.Ns L m
theorem Kp.refl (L:Addr) (h:Heap):Kp L h h:=⟨fun _ _ _ e _=>e,fun _ o _ e=>⟨o.slots,e⟩,fun _ e=>e⟩
theorem Kp.trans (x:Kp L h1z h2z) (y:Kp L h2z h3z):Kp L h1z h3z where
 obj:=fun b o hb e n=>y.obj b o hb (x.obj b o hb e n) n
 dct:=fun b o hb e=>let ⟨_,e1z⟩:=x.dct b o hb e;let ⟨sl,e2z⟩:=y.dct b _ hb e1z;⟨sl,e2z⟩
 ns:=fun m e=>y.ns m (x.ns m e)
theorem Kp.of_keeps (k:∀ b o,h.get? b = some o -> h'.get? b = some o):Kp L h h' :=
 ⟨fun b o _ e _=>k b o e,fun b o _ e=>⟨o.slots,k b o e⟩,fun _ e=>e.keeps k⟩
theorem zB {a:Addr} {m:Str -> Option Value} (hn:h.Ns L m) (ho:h.get? a = some o) (n:JW o):a ≠ L:=by
 rintro rfl
 obtain ⟨o',es,ep,h1,h2,_⟩:=hn
 rw [ho] at h1;obtain rfl:=vAy h1
 exact n _ _ h2
theorem Kp.keep {m:Str -> Option Value} (k:Kp L h h') (hn:h.Ns L m) (e:h.get? b = some o) (n:JW o):h'.get? b = some o :=
 k.obj b o (zB hn e n) e n
theorem Kp.rp {m:Str -> Option Value} (k:Kp L h h') (hn:h.Ns L m) {v d fp} (r:Rp X h v d fp):Rp X h' v d fp:=r.keep fun _ _ e n=>k.keep hn e n
theorem Kp.rps {m:Str -> Option Value} (k:Kp L h h') (hn:h.Ns L m) {v d fp} (r:Rps X h v d fp):Rps X h' v d fp:=r.keep fun _ _ e n=>k.keep hn e n
structure Pg where
 k:D
 w:D
 p:List D
variable {p:Pg}
structure Sg where
 pg:Addr -> Option Pg
 hd:Addr -> Option (List D)
variable {W' Wz sg':Sg} {U:Sg -> List D -> Option (D × Sg)} {Yz11:Sg -> List D -> (D -> Sg -> Prop) -> Prop}
structure Cx where
 prog:Program
 w:World
 base:Heap
 mg:Str -> Option Value
 mb:Str -> Option Value
 mu:List Addr
 sg:Sg
variable {c c' c'' c0z c1z:Cx}
def Fz (c:Cx) (a:Addr):Prop:=(∃ o,c.base.get? a = some o) /\ a ∉ c.mu
structure Cx.Ok (c:Cx):Prop where
 g:c.base.Ns mainGlobals c.mg
 b:c.base.Ns builtinsNs c.mb
 nl:c.base.NoLimit
inductive R (α:Type) where
 | ok (a:α)
 | exc (k:Str)
variable {r:R (D × Nat)}
noncomputable abbrev Tj:=Option (R (D × Nat))
abbrev Td:=List D -> Tj
variable {F:Td}
theorem rno {α:Type} {a:α} {k:Str} {p:Prop} (h:R.ok a = R.exc k):p:=by cases h
theorem rnx {α:Type} {a:α} {k:Str} {p:Prop} (h:R.exc k = R.ok a):p:=by cases h
noncomputable def JR {α β:Type} (x:Option (R α)) (f:α -> Option (R β)):Option (R β) :=
 (fun _=>match x with
 | some (.ok a)=>f a
 | some (.exc k)=>some (.exc k)
 | none=>none) @PySem.Builtin.divmod
@[simp] theorem jKD {α β:Type} (a:α) (f:α -> Option (R β)):JR (some (.ok a)) f = f a:=rfl
@[simp] theorem qAG {α β:Type} (k:Str) (f:α -> Option (R β)):JR (some (.exc k)) f = some (.exc k):=rfl
@[simp] theorem qIA {α β:Type} (f:α -> Option (R β)):JR none f = none:=rfl
theorem J6 {α β:Type} {x:Option (R α)} {f:α -> Option (R β)} {r:R β} (h:JR x f = some r) :
  (∃ a,x = some (.ok a) /\ f a = some r) \/ ∃ k,x = some (.exc k) /\ r = .exc k:=by
 unfold JR at h
 split at h
 ·exact .inl ⟨_,rfl,h⟩
 ·exact .inr ⟨_,rfl,(vAy h).symm⟩
 ·exact nos h
noncomputable abbrev G:=List (Option (D × Nat))
variable {Z Z' Z'' Zbz:G} {fC fT:G -> Option (R Bool)} {fI:G -> Option (R (List D))}
abbrev Ti:=Sg -> G -> Option (D × Sg × G)
abbrev Tg:=G -> Tj
variable {f fE:Tg}
inductive FrE (c:Cx) (h:Heap) (env:Env):Prop
 | mk (h1:env.scope.kind ≠ .module) (L:Addr) (o:Obj) (es:Array DictEntry) (n:Nat) (h2:env.frame = some L) (h3:c.base.get? L = none) (h4:h.get? L = some o) (h5:o.data = .dict es n):FrE c h env
def FrOk (c:Cx) (l:List Env) (h:Heap):Prop:=∀ env ∈ l,FrE c h env
inductive HmT (A:Around) (h:Heap):Prop
 | mk (x:Addr) (o:Obj) (vs:Array Value) (h1:A.handled = some (.ref x)) (h2:h.get? x = some o) (h3:o.data = .fields vs) (h4:vs[2]? = some .none):HmT A h
def Hm (hm:Bool) (A:Around) (h:Heap):Prop :=
 match hm with
 | true=>HmT A h
 | false=>A.handled = none
structure Room (c:Cx) (hm:Bool) (n:Nat) (A:Around) (l:List Env) (h:Heap):Prop where
 fr:A.frames = some l
 ok:FrOk c l h
 depth:A.depth + n <= 900
 units:A.units + 10 * n <= 9000
 hm:Hm hm A h
theorem FrOk.keep {m:Str -> Option Value} (k:Kp L h h') (hn:h.Ns L m) (x:FrOk c l h):FrOk c l h':=by
 intro env he
 obtain ⟨h1,L',o,es,n,h2,h3,h4,h5⟩:=x env he
 by_cases hL:L' = L
 ·subst hL
  obtain ⟨o',es',ep,h6,h7,_⟩:=k.ns m hn
  exact ⟨h1,L',o',es',ep,h2,h3,h6,h7⟩
 ·obtain ⟨sl,h6⟩:=k.dct L' o hL h4
  exact ⟨h1,L',_,es,n,h2,h3,h6,h5⟩
theorem Hm.keep {m:Str -> Option Value} (k:Kp L h h') (hn:h.Ns L m) (x:Hm hm A h):Hm hm A h':=by
 cases hm with
 | false=>exact x
 | true =>
  obtain ⟨y,o,vs,h1,h2,h3,h4⟩:=x
  exact ⟨y,o,vs,h1,k.keep hn h2 (JS h3),h3,h4⟩
theorem Room.keep {n:Nat} {m:Str -> Option Value} (k:Kp L h h') (hn:h.Ns L m) (x:Room c hm n A l h):Room c hm n A l h' :=
 ⟨x.fr,x.ok.keep k hn,x.depth,x.units,x.hm.keep k hn⟩
theorem Room.mono {n:Nat} (x:Room c hm n A l h) (hn:n' <= n):Room c hm n' A l h :=
 ⟨x.fr,x.ok,by exact lN [_,_,_] (.a (.v 0) (.v 1)) (.n 900) [(.v 1,.v 2),(.a (.v 0) (.v 2),.n 900)] rT hn x.depth,vAz (Nat.add_le_add_left (Nat.mul_le_mul_left 10 hn) _) x.units,x.hm⟩
def Gd (c:Cx) (s:Shared):Prop:=c.base.StaysIn s.heap /\ 1 <= s.toks
structure St (c:Cx) (L:Addr) (s s':Shared):Prop where
 same:∃ h tk,s' = { s with heap:=h,toks:=tk }
 kp:Kp L s.heap s'.heap
 bs:Gd c s'
theorem St.trans {s s2z:Shared} (x:St c L s s1z) (y:St c L s1z s2z):St c L s s2z:=by
 obtain ⟨h,tk,e⟩:=x.same
 obtain ⟨h',tk',e'⟩:=y.same
 exact ⟨⟨h',tk',by rw [e',e]⟩,x.kp.trans y.kp,y.bs⟩
theorem St.refl {s:Shared} (hb:Gd c s):St c L s s:=⟨⟨_,_,rfl⟩,Kp.refl _ _,hb⟩
theorem St.toks {s:Shared} (hb:Gd c s) (t:Nat) (ht:1 <= t):St c L s { s with toks:=t }:=⟨⟨_,_,rfl⟩,Kp.refl _ _,hb.1,ht⟩
theorem St.tok {s:Shared} (hb:Gd c s) (k:Nat):St c L s { s with toks:=s.toks + k }:=St.toks hb _ (by exact vAz hb.2 (vBW ..))
theorem St.of_keeps {s:Shared} (hb:Gd c s) (h:Heap) (t:Nat) (k:∀ b o,s.heap.get? b = some o -> h.get? b = some o) (ht:1 <= t):St c L s { s with heap:=h,toks:=t } :=
 ⟨⟨_,_,rfl⟩,Kp.of_keeps k,fun b o e=>k b o (hb.1 b o e),ht⟩
theorem St.push {s:Shared} (hb:Gd c s) (o:Obj):St c L s { s with heap:=s.heap.push o } :=
 St.of_keeps hb _ _ (fun _ _ e=>vBB _ e) hb.2
theorem Kp.gone {a:Addr} {m:Str -> Option Value} (k:Kp L h h') (hn:h.Ns L m) (e:h'.get? a = none):h.get? a = none:=by
 cases q:h.get? a with
 | none=>rfl
 | some o =>
  by_cases hL:a = L
  ·subst hL
   obtain ⟨o',_,_,h6,_⟩:=k.ns m hn
   rw [e] at h6;exact nos h6
  ·obtain ⟨sl,h6⟩:=k.dct a o hL q
   rw [e] at h6;exact nos h6
inductive Nd (h:Heap) (a:Addr):Prop
 | mk (o:Obj) (vs:Array Value) (k:Nat) (h1:h.get? a = some o) (h2:o.data = .seq vs k) (h3:o.dict = none):Nd h a
def Lv (h h':Heap) (lv:Nat) (fp:List Addr):Prop :=
 (1 <= lv -> ∀ a t,fp = a :: t -> h.get? a = none /\ a ∉ t /\ Nd h' a) /\ (2 <= lv -> (∀ a ∈ fp,h.get? a = none /\ Nd h' a) /\ fp.Nodup)
theorem Lv.nil (h:Heap) (lv:Nat):Lv h h' lv []:=⟨fun _ _ _ e=>(nomatch e),fun _=>⟨fun _ ha=>(nomatch ha),.nil⟩⟩
theorem Lv.zero (h:Heap) (fp:List Addr):Lv h h' 0 fp:=⟨fun h=>absurd h (absurd h (vBX _)),fun h=>absurd h (absurd h (vBX _))⟩
theorem Lv.back {g:Heap} (k:∀ a,h'.get? a = none -> h.get? a = none) (x:Lv h' g lv fp):Lv h g lv fp :=
 ⟨fun h1 a t e=>⟨k a (x.1 h1 a t e).1,(x.1 h1 a t e).2⟩,fun h2=>⟨fun a ha=>⟨k a ((x.2 h2).1 a ha).1,((x.2 h2).1 a ha).2⟩,(x.2 h2).2⟩⟩
theorem Nd.keep {a:Addr} {m:Str -> Option Value} (k:Kp L h h') (hn:h.Ns L m) (x:Nd h a):Nd h' a:=by
 obtain ⟨o,vs,j,h1,h2,h3⟩:=x
 exact ⟨o,vs,j,k.keep hn h1 (JK h2),h2,h3⟩
theorem Lv.nd {g:Heap} (k:∀ a,Nd h' a -> Nd g a) (x:Lv h h' lv fp):Lv h g lv fp :=
 ⟨fun h1 a t e=>⟨(x.1 h1 a t e).1,(x.1 h1 a t e).2.1,k a (x.1 h1 a t e).2.2⟩,fun h2=>⟨fun a ha=>⟨((x.2 h2).1 a ha).1,k a ((x.2 h2).1 a ha).2⟩,(x.2 h2).2⟩⟩
theorem Lv.keep {g:Heap} {m:Str -> Option Value} (k:Kp L h' g) (hn:h'.Ns L m) (x:Lv h h' lv fp):Lv h g lv fp :=
 ⟨fun h1 a t e=>⟨(x.1 h1 a t e).1,(x.1 h1 a t e).2.1,(x.1 h1 a t e).2.2.keep k hn⟩,fun h2=>⟨fun a ha=>⟨((x.2 h2).1 a ha).1,((x.2 h2).1 a ha).2.keep k hn⟩,(x.2 h2).2⟩⟩
theorem Lv.one {a:Addr} (ha:h.get? a = none) (hd:Nd h' a):Lv h h' lv [a] :=
 ⟨fun _ b t e=>by cases e;exact ⟨ha,by simp,hd⟩,fun _=>⟨fun b hb=>by simp at hb;subst hb;exact ⟨ha,hd⟩,by simp⟩⟩
inductive Fly (c:Cx) (L:Addr) (l:List Env) (s:Shared) (x:Value) (k:Str) (s':Shared):Prop
 | mk (a C:Addr) (t:Value) (bs:Heap) (h1:x = .ref a) (h2:c.mg k = some (.ref C)) (h3:St c L s s') (h4:c.base.StaysIn bs)
  (h5:∀ b o,s.heap.get? b = some o -> JW o -> bs.get? b = some o)
  (h6:s.heap.get? a = none) (h7:Heap.FlyingW bs l a (.ref C) t s'.heap)
  (h8:∃ o vs,s'.heap.get? a = some o /\ o.data = .fields vs /\ vs[2]? = some .none /\ o.dict = none):Fly c L l s x k s'
theorem Fly.back {s:Shared} {x:Value} {k:Str} {m:Str -> Option Value} (st:St c L s s1z) (hn:s.heap.Ns L m)
  (f:Fly c L l s1z x k s'):Fly c L l s x k s':=by
 refine nn fun gN=>?_
 obtain ⟨a,C,t,bs,h1,h2,h3,h4,h5,h6,h7,h8⟩:=f
 refine gN ?_
 clear gN
 exact ⟨a,C,t,bs,h1,h2,st.trans h3,h4,fun b o e nd=>h5 b o (st.kp.keep hn e nd) nd,st.kp.gone hn h6,h7,h8⟩
def qLK {α:Type} (c:Cx) (L:Addr) (l:List Env) (s:Shared) (r:R α) (E:Ta):Prop:=∀ x k s',r = .exc k -> Fly c L l s x k s' -> E x s'
def QOp (c:Cx) (L:Addr) (fp:List Addr) (s:Shared) (r:R (D × Nat)) (Q:Ta):Prop :=
 ∀ v d lv fp' s',r = .ok (d,lv) -> St c L s s' -> Rp c.mg s'.heap v d fp' -> (∀ a ∈ fp',s.heap.get? a = none \/ a ∈ fp \/ Fz c a) -> Lv s.heap s'.heap lv fp' -> Q v s'
def OpN (c:Cx) (hm:Bool) (n:Nat) (op:List Value -> Sem Value) (F:Td):Prop :=
 ∀ (A:Around) (l:List Env) (L:Addr) (m:Str -> Option Value) (s:Shared) (vs:List Value) (ds:List D) (fp:List Addr) (r:R (D × Nat)) (Q:Ta) (E:Ta),
  Room c hm n A l s.heap -> s.heap.Ns L m -> c.base.get? L = none -> Gd c s -> Rps c.mg s.heap vs ds fp -> F ds = some r -> 
  QOp c L fp s r Q -> qLK c L l s r E -> 
  wpAny (model c.prog c.w) A (op vs) Q E s
def Bd (env:Env) (h:Heap) (x:Str) (v:Value):Prop :=
 (x == ("__debug__":Str)) = false /\ (x == ("__classdict__":Str)) = false /\ 
 ((env.kindOf x = some .local /\ ∃ m,h.Ns env.locals m /\ m x = some v) \/ 
  ((env.kindOf x = some .cell \/ env.kindOf x = some .free) /\ ∃ cl,env.cells.lookup x = some cl /\ h.IsCell cl (some v)))
theorem Jd {v} (h:o.data = .cell v):JW o:=fun es m e=>by rw [h] at e;cases e
theorem Bd.keep {v:Value} {m:Str -> Option Value} (k:Kp env.locals h h') (hn:h.Ns env.locals m) (b:Bd env h x v):Bd env h' x v:=by
 obtain ⟨hd,hc,b⟩:=b
 refine ⟨hd,hc,?_⟩
 rcases b with ⟨h1,m',h2,h3⟩ | ⟨h1,cl,h2,o,h3,h4⟩
 ·exact .inl ⟨h1,m',k.ns _ h2,h3⟩
 ·exact .inr ⟨h1,cl,h2,o,k.keep hn h3 (Jd h4),h4⟩
structure Rd (c:Cx) (env:Env) (nm:List Str) (Z:G) (vf:Tb) (s:Shared):Prop where
 bs:Gd c s
 ns:∃ m,s.heap.Ns env.locals m
 nb:c.base.get? env.locals = none
 fn:env.scope.kind = .function
 gl:env.globals = mainGlobals
 bl:env.builtins = builtinsNs
 cl:∀ x,env.scope.names.lookup x = some .cell -> ∃ a,env.cells.lookup x = some a
 var:∀ i d lv,Z[i]? = some (some (d,lv)) -> ∃ x,nm[i]? = some x /\ Bd env s.heap x (vf i).1 /\ Rp c.mg s.heap (vf i).1 d (vf i).2
theorem Rd.keep {s:Shared} (k:St c env.locals s s') (x:Rd c env nm Z vf s):Rd c env nm Z vf s':=by
 obtain ⟨m,hm⟩:=x.ns
 refine ⟨k.bs,⟨m,k.kp.ns m hm⟩,x.nb,x.fn,x.gl,x.bl,x.cl,fun i d lv e=>?_⟩
 refine nn fun gN=>?_
 obtain ⟨y,h1,h2,h3⟩:=x.var i d lv e
 refine gN ?_
 clear gN
 exact ⟨y,h1,h2.keep k.kp hm,k.kp.rp hm h3⟩
def Tr (c:Cx) (h:Heap) (vf:Tb) (occ:List Nat) (fp:List Addr):Prop:=∀ a ∈ fp,h.get? a = none \/ (∃ j ∈ occ,a ∈ (vf j).2) \/ Fz c a
theorem Tr.nil:Tr c h vf occ []:=fun _ ha=>nomatch ha
theorem Tr.left (x:Tr c h vf o1 fp):Tr c h vf (o1 ++ o2) fp :=
 fun a ha=>(x a ha).imp id fun q=>q.imp (fun ⟨j,h1,h2⟩=>⟨j,vBU _ h1,h2⟩) id
theorem Tr.right (x:Tr c h vf o2 fp):Tr c h vf (o1 ++ o2) fp :=
 fun a ha=>(x a ha).imp id fun q=>q.imp (fun ⟨j,h1,h2⟩=>⟨j,vBQ _ h1,h2⟩) id
theorem Tr.back (k:∀ a,h'.get? a = none -> h.get? a = none) (x:Tr c h' vf occ fp):Tr c h vf occ fp :=
 fun a ha=>(x a ha).imp (k a) id
theorem Tr.append {f g:List Addr} (x:Tr c h vf occ f) (y:Tr c h vf occ g):Tr c h vf occ (f ++ g) :=
 fun a ha=>(vBK.mp ha).elim (x a) (y a)
def qPA (c:Cx) (L:Addr) (vf:Tb) (occ:List Nat) (s:Shared) (r:R (D × Nat)) (Q:Ta):Prop :=
 ∀ v d lv fp s',r = .ok (d,lv) -> St c L s s' -> Rp c.mg s'.heap v d fp -> Tr c s.heap vf occ fp -> Lv s.heap s'.heap lv fp -> Q v s'
def qNL (c:Cx) (L:Addr) (s:Shared) (r:R Bool) (Q:Bool -> Shared -> Prop):Prop:=∀ b s',r = .ok b -> St c L s s' -> Q b s'
def qNM (c:Cx) (L:Addr) (vf:Tb) (occ:List Nat) (s:Shared) (r:R (List D)) (Q:List Value -> Shared -> Prop):Prop :=
 ∀ vs ds fp s',r = .ok ds -> St c L s s' -> Rps c.mg s'.heap vs ds fp -> Tr c s.heap vf occ fp -> Q vs s'
def Den (c:Cx) (hm:Bool) (n:Nat) (sc:Scope) (nm:List Str) (e:Expr) (occ:List Nat) (f:Tg):Prop :=
 ∀ (A:Around) (l:List Env) (env:Env) (Z:G) (vf:Tb) (s:Shared) (r:R (D × Nat)) (Q:Ta) (E:Ta),
  env.scope = sc -> Room c hm n A l s.heap -> Rd c env nm Z vf s -> f Z = some r -> 
  qPA c env.locals vf occ s r Q -> qLK c env.locals l s r E -> 
  wpAny (model c.prog c.w) A (eval e env) Q E s
def DenB (c:Cx) (hm:Bool) (n:Nat) (sc:Scope) (nm:List Str) (e:Expr) (f:G -> Option (R Bool)):Prop :=
 ∀ (A:Around) (l:List Env) (env:Env) (Z:G) (vf:Tb) (s:Shared) (r:R Bool) (Q:Bool -> Shared -> Prop) (E:Ta),
  env.scope = sc -> Room c hm n A l s.heap -> Rd c env nm Z vf s -> f Z = some r -> 
  qNL c env.locals s r Q -> qLK c env.locals l s r E -> 
  wpAny (model c.prog c.w) A (isTrue e env (eval e env)) Q E s
def DenA (c:Cx) (hm:Bool) (n:Nat) (sc:Scope) (nm:List Str) (es:List Expr) (occ:List Nat) (f:G -> Option (R (List D))):Prop :=
 ∀ (A:Around) (l:List Env) (env:Env) (Z:G) (vf:Tb) (s:Shared) (pos:Pos) (r:R (List D)) (Q:List Value -> Shared -> Prop) (E:Ta),
  env.scope = sc -> Room c hm n A l s.heap -> Rd c env nm Z vf s -> f Z = some r -> 
  qNM c env.locals vf occ s r Q -> qLK c env.locals l s r E -> 
  wpAny (model c.prog c.w) A (spliced (backTo pos (starEach es env))) Q E s
section
variable {n:Nat}
theorem Den.run {β:Type} (hd:Den c hm n sc nm e occ f) {g:D × Nat -> Option (R β)} {r:R β}
  {s:Shared} {Q:Ta} 
  (hsc:env.scope = sc) (hR:Room c hm n A l s.heap) (hRd:Rd c env nm Z vf s) (hx:JR (f Z) g = some r)
  (hok:∀ d lv,f Z = some (.ok (d,lv)) -> g (d,lv) = some r -> ∀ v fp s',St c env.locals s s' -> Rp c.mg s'.heap v d fp -> Tr c s.heap vf occ fp -> Lv s.heap s'.heap lv fp -> 
   Room c hm n A l s'.heap -> Rd c env nm Z vf s' -> Q v s')
  (hexc:∀ x k s',r = .exc k -> Fly c env.locals l s x k s' -> E x s'):wpAny (model c.prog c.w) A (eval e env) Q E s:=by
 obtain ⟨m,hn⟩:=hRd.ns
 rcases J6 hx with ⟨⟨d,lv⟩,h1,h2⟩ | ⟨k,h1,rfl⟩
 ·exact hd A l env Z vf s _ Q E hsc hR hRd h1 (fun v d' lv' fp s' e st rp tr lvl=>by cases e;exact hok d lv h1 h2 v fp s' st rp tr lvl (hR.keep st.kp hn) (hRd.keep st)) fun x k s' e=>rno e
 ·exact hd A l env Z vf s _ Q E hsc hR hRd h1 (fun v d' lv' fp s' e=>rnx e) fun x k' s' e fl=>by cases e;exact hexc x k s' rfl fl
theorem DenA.run {β:Type} {f:G -> Option (R (List D))} (hd:DenA c hm n sc nm es occ f) {g:List D -> Option (R β)} {r:R β}
  {s:Shared} {Q:List Value -> Shared -> Prop} 
  (hsc:env.scope = sc) (hR:Room c hm n A l s.heap) (hRd:Rd c env nm Z vf s) (hx:JR (f Z) g = some r)
  (hok:∀ ds,f Z = some (.ok ds) -> g ds = some r -> ∀ vs fp s',St c env.locals s s' -> Rps c.mg s'.heap vs ds fp -> Tr c s.heap vf occ fp -> 
   Room c hm n A l s'.heap -> Rd c env nm Z vf s' -> Q vs s')
  (hexc:∀ x k s',r = .exc k -> Fly c env.locals l s x k s' -> E x s'):wpAny (model c.prog c.w) A (spliced (backTo pos (starEach es env))) Q E s:=by
 obtain ⟨m,hn⟩:=hRd.ns
 rcases J6 hx with ⟨ds,h1,h2⟩ | ⟨k,h1,rfl⟩
 ·exact hd A l env Z vf s pos _ Q E hsc hR hRd h1 (fun vs ds' fp s' e st rp tr=>by cases e;exact hok ds h1 h2 vs fp s' st rp tr (hR.keep st.kp hn) (hRd.keep st)) fun x k s' e=>rno e
 ·exact hd A l env Z vf s pos _ Q E hsc hR hRd h1 (fun v d' fp s' e=>rnx e) fun x k' s' e fl=>by cases e;exact hexc x k s' rfl fl
theorem DenB.run {β:Type} {f:G -> Option (R Bool)} (hd:DenB c hm n sc nm e f) {g:Bool -> Option (R β)} {r:R β}
  {s:Shared} {Q:Bool -> Shared -> Prop} 
  (hsc:env.scope = sc) (hR:Room c hm n A l s.heap) (hRd:Rd c env nm Z vf s) (hx:JR (f Z) g = some r)
  (hok:∀ b,f Z = some (.ok b) -> g b = some r -> ∀ s',St c env.locals s s' -> Room c hm n A l s'.heap -> Rd c env nm Z vf s' -> Q b s')
  (hexc:∀ x k s',r = .exc k -> Fly c env.locals l s x k s' -> E x s'):wpAny (model c.prog c.w) A (isTrue e env (eval e env)) Q E s:=by
 obtain ⟨m,hn⟩:=hRd.ns
 rcases J6 hx with ⟨b,h1,h2⟩ | ⟨k,h1,rfl⟩
 ·exact hd A l env Z vf s _ Q E hsc hR hRd h1 (fun b' s' e st=>by cases e;exact hok b h1 h2 s' st (hR.keep st.kp hn) (hRd.keep st)) fun x k s' e=>rno e
 ·exact hd A l env Z vf s _ Q E hsc hR hRd h1 (fun v s' e=>rnx e) fun x k' s' e fl=>by cases e;exact hexc x k s' rfl fl
noncomputable def atV {β:Type} (Z:G) (i:Nat) (K:D -> Nat -> Option β):Option β:=match Z[i]? with
 | some (some (d,lv))=>K d lv
 | _=>none
theorem jCI {β:Type} {K:D -> Nat -> Option β} {r:β} (h:atV Z i K = some r):∃ d lv,Z[i]? = some (some (d,lv)) /\ K d lv = some r:=by
 unfold atV at h
 rcases hg:Z[i]? with _ | _ | ⟨d,lv⟩ <;> rw [hg] at h
 ·exact nos h
 ·exact nos h
 ·exact ⟨d,lv,rfl,h⟩
noncomputable def ofO {β:Type} (d:D) (K:Addr -> Option β):Option β:=match d with
 | .ob i=>K i
 | _=>none
theorem qBU {β:Type} {K:Addr -> Option β} {r:β} (h:ofO d K = some r):∃ i,d = .ob i /\ K i = some r:=by cases d <;> first | exact nos h | exact ⟨_,rfl,h⟩
def atO {β:Type} (Z:G) (i:Nat) (K:Addr -> Option β):Option β:=atV Z i fun d _=>ofO d K
theorem Zk {β:Type} {K:Addr -> Option β} {r:β} (h:atO Z i K = some r):∃ a lv,Z[i]? = some (some (.ob a,lv)) /\ K a = some r:=by
 obtain ⟨d,lv,e,h⟩:=jCI h
 obtain ⟨a,rfl,h⟩:=qBU h
 exact ⟨a,lv,e,h⟩
noncomputable def okR {α β:Type} (x:Option (R α)) (K:α -> Option β):Option β:=match x with
 | some (.ok d)=>K d
 | _=>none
theorem jIM {α β:Type} {x:Option (R α)} {K:α -> Option β} {r:β} (h:okR x K = some r):∃ d,x = some (.ok d) /\ K d = some r:=by
 rcases x with _ | _ | _ <;> first | exact nos h | exact ⟨_,rfl,h⟩
def okV {β:Type} (x:Tj) (K:D -> Option β):Option β:=okR x fun a=>K a.1
theorem jCB {β:Type} {x:Tj} {K:D -> Option β} {r:β} (h:okV x K = some r):∃ d lv,x = some (.ok (d,lv)) /\ K d = some r:=by
 obtain ⟨⟨d,lv⟩,e,h⟩:=jIM h
 exact ⟨d,lv,e,h⟩
def JH (i:Nat) (Z:G):Tj:=atV Z i fun d _=>some (.ok (d,0))
theorem XS {v:Value} {s:Shared} {Q:Ta} 
  (hk:env.scope.kind = .function) (b:Bd env s.heap x v) (h:Q v s):wpAny M A (eval (.Name x pos) env) Q E s:=by
 obtain ⟨hd,hc,b⟩:=b
 rcases b with ⟨h1,m,h2,h3⟩ | ⟨h1 | h1,cl,h2,h3⟩
 ·exact wpAny_Name (wpAny_loadName_local hk h1 h2 h3 h) hd
 ·exact wpAny_Name (wpAny_loadName_cell hk h1 h2 h3 h) hd
 ·exact wpAny_Name (wpAny_loadName_free hk h1 h2 h3 h hc) hd
theorem JB (i:Nat) (hx:autoParam (nm[i]? = some x) yL):Den c hm n sc nm (.Name x pos) [i] (JH i):=by
 intro A l env Z vf s r Q E hsc hR hRd hf hQ hE
 obtain ⟨d,lv,hi,hf⟩:=jCI hf
 ·skip
  obtain ⟨y,h1,h2,h3⟩:=hRd.var i d lv hi
  rw [hx] at h1;obtain rfl:=vAy h1
  exact XS hRd.fn h2 (hQ _ _ _ _ _ ((vAy hf).symm) (St.refl hRd.bs) h3 (fun a ha=>.inr (.inl ⟨i,by simp,ha⟩)) (Lv.zero _ _))
theorem Qt:Den c hm n sc nm (.Constant .none k pos) [] (fun _=>some (.ok (.none,2))):=by
 intro A l env Z vf s r Q E hsc hR hRd hf hQ hE
 exact Constant_none (hQ _ _ _ _ _ ((vAy hf).symm) (St.refl hRd.bs) .none Tr.nil (Lv.nil _ _))
theorem Jj {b:Bool}:Den c hm n sc nm (.Constant (.bool b) k pos) [] (fun _=>some (.ok (.bool b,2))):=by
 intro A l env Z vf s r Q E hsc hR hRd hf hQ hE
 exact Constant_bool (hQ _ _ _ _ _ ((vAy hf).symm) (St.refl hRd.bs) (.bool b) Tr.nil (Lv.nil _ _))
theorem JC {i:Int}:Den c hm n sc nm (.Constant (.int i) k pos) [] (fun _=>some (.ok (.int i,2))):=by
 intro A l env Z vf s r Q E hsc hR hRd hf hQ hE
 exact wpAny_Constant_int (hQ _ _ _ _ _ ((vAy hf).symm) (St.tok hRd.bs 1) (.int i _) Tr.nil (Lv.nil _ _))
theorem qGZ:Den c hm n sc nm (.Constant (.str x) k pos) [] (fun _=>some (.ok (.str x.cps.toList,2))):=by
 intro A l env Z vf s r Q E hsc hR hRd hf hQ hE
 exact Constant_str (hQ _ _ _ _ _ ((vAy hf).symm) (St.tok hRd.bs 1) (by simpa using (Rp.str (X:=c.mg) (h:=s.heap) x.cps.toList s.toks)) Tr.nil (Lv.nil _ _))
theorem JT {l:List Nat} (h:autoParam (x.cps.toList = l) yK):Den c hm n sc nm (.Constant (.str x) k pos) [] (fun _=>some (.ok (.str l,2))):=by subst h;exact qGZ
noncomputable def jOY (op:Operator):List Value -> Sem Value
 | [a,b]=>binaryOp op a b
 | _=>.unsupported ""
noncomputable def vD (op:CmpOp):List Value -> Sem Value
 | [a,b]=>compareOp op a b
 | _=>.unsupported ""
noncomputable def qMA (op:UnaryOp):List Value -> Sem Value
 | [a]=>unaryOp op a
 | _=>.unsupported ""
theorem Rps.one {v:Value} {f:List Addr} (r:Rp X h v d f):Rps X h [v] [d] f:=by
 simpa using (Rps.cons r (Rps.nil (X:=X) (h:=h)))
theorem Rps.two {v v':Value} {d':D} {f f':List Addr} (r:Rp X h v d f) (r':Rp X h v' d' f'):Rps X h [v,v'] [d,d'] (f ++ f'):=Rps.cons r (Rps.one r')
theorem JF {op:Operator} {g:Tg}
  (ho:OpN c hm n (jOY op) F) (h1:Den c hm n sc nm e1z o1 f) (h2:Den c hm n sc nm e2z o2 g) :
  Den c hm n sc nm (.BinOp e1z op e2z pos) (o1 ++ o2) (fun Z=>JR (f Z) fun a=>JR (g Z) fun b=>F [a.1,b.1]):=by
 intro A l env Z vf s r Q E hsc hR hRd hf hQ hE
 obtain ⟨m,hn⟩:=hRd.ns
 refine wpAny_BinOp (h1.run hsc hR hRd hf (fun a la _ hf va fa s1z st1z ra ta lva hR1 hRd1=>?_) hE)
 obtain ⟨m1z,hn1z⟩:=hRd1.ns
 refine h2.run hsc hR1 hRd1 hf (fun b lb _ hf vb fb s2z st2z rb tb lvb hR2z hRd2z=>?_) (fun x k s' e fl=>hE x k s' e (fl.back st1z hn))
 obtain ⟨m2z,hn2z⟩:=hRd2z.ns
 refine ho A l env.locals m2z s2z [va,vb] [a,b] (fa ++ fb) r Q E hR2z hn2z hRd2z.nb hRd2z.bs (Rps.two (st2z.kp.rp hn1z ra) rb) hf (fun v d lv fp s3z e st3z rp tr lvl=>?_) (fun x k s' e fl=>hE x k s' e ((fl.back st2z hn1z).back st1z hn))
 have st:=(st1z.trans st2z)
 refine hQ v d lv fp s3z e (st.trans st3z) rp (fun x hx=>?_) (lvl.back fun x hx=>st.kp.gone hn hx)
 rcases tr x hx with h | h | h
 ·exact .inl (st.kp.gone hn h)
 ·rcases vBK.mp h with h | h
  ·exact ta.left x h
  ·exact (tb.back fun y hy=>st1z.kp.gone hn hy).right x h
 ·exact .inr (.inr h)
theorem QN {op:CmpOp} {g:Tg}
  (ho:OpN c hm n (vD op) F) (h1:Den c hm n sc nm e1z o1 f) (h2:Den c hm n sc nm e2z o2 g) (hmk:autoParam (behindInMarks op e2z = false) yK) :
  Den c hm n sc nm (.Compare e1z [op] [e2z] pos) (o1 ++ o2) (fun Z=>JR (f Z) fun a=>JR (g Z) fun b=>F [a.1,b.1]):=by
 intro A l env Z vf s r Q E hsc hR hRd hf hQ hE
 obtain ⟨m,hn⟩:=hRd.ns
 refine wpAny_Compare1 (h1.run hsc hR hRd hf (fun a la _ hf va fa s1z st1z ra ta lva hR1 hRd1=>?_) hE) hmk
 obtain ⟨m1z,hn1z⟩:=hRd1.ns
 refine h2.run hsc hR1 hRd1 hf (fun b lb _ hf vb fb s2z st2z rb tb lvb hR2z hRd2z=>?_) (fun x k s' e fl=>hE x k s' e (fl.back st1z hn))
 obtain ⟨m2z,hn2z⟩:=hRd2z.ns
 refine ho A l env.locals m2z s2z [va,vb] [a,b] (fa ++ fb) r Q E hR2z hn2z hRd2z.nb hRd2z.bs (Rps.two (st2z.kp.rp hn1z ra) rb) hf (fun v d lv fp s3z e st3z rp tr lvl=>?_) (fun x k s' e fl=>hE x k s' e ((fl.back st2z hn1z).back st1z hn))
 have st:=(st1z.trans st2z)
 refine hQ v d lv fp s3z e (st.trans st3z) rp (fun x hx=>?_) (lvl.back fun x hx=>st.kp.gone hn hx)
 rcases tr x hx with h | h | h
 ·exact .inl (st.kp.gone hn h)
 ·rcases vBK.mp h with h | h
  ·exact ta.left x h
  ·exact (tb.back fun y hy=>st1z.kp.gone hn hy).right x h
 ·exact .inr (.inr h)
theorem Yn {op:UnaryOp} 
  (ho:OpN c hm n (qMA op) F) (h1:Den c hm n sc nm e o1 f):Den c hm n sc nm (.UnaryOp op e pos) o1 (fun Z=>JR (f Z) fun a=>F [a.1]):=by
 intro A l env Z vf s r Q E hsc hR hRd hf hQ hE
 obtain ⟨m,hn⟩:=hRd.ns
 refine UnaryOp_ (h1.run hsc hR hRd hf (fun a la _ hf va fa s1z st1z ra ta lva hR1 hRd1=>?_) hE)
 obtain ⟨m1z,hn1z⟩:=hRd1.ns
 refine ho A l env.locals m1z s1z [va] [a] fa r Q E hR1 hn1z hRd1.nb hRd1.bs (Rps.one ra) hf (fun v d lv fp s3z e st3z rp tr lvl=>?_) (fun x k s' e fl=>hE x k s' e (fl.back st1z hn))
 refine hQ v d lv fp s3z e (st1z.trans st3z) rp (fun x hx=>?_) (lvl.back fun x hx=>st1z.kp.gone hn hx)
 rcases tr x hx with h | h | h
 ·exact .inl (st1z.kp.gone hn h)
 ·exact ta x h
 ·exact .inr (.inr h)
theorem JD:DenA c hm n sc nm [] [] (fun _=>some (.ok [])):=by
 intro A l env Z vf s pos r Q E hsc hR hRd hf hQ hE
 exact vCg (hQ _ _ _ _ ((vAy hf).symm) (St.refl hRd.bs) .nil Tr.nil)
def QC (e:Expr):Prop:=∀ rest env,starEach (e :: rest) env = (false,eval e env) :: starEach rest env
theorem JA {g:G -> Option (R (List D))}
  (h1:Den c hm n sc nm e o1 f) (h2:DenA c hm n sc nm rest o2 g) (hs:autoParam (QC e) yN) :
  DenA c hm n sc nm (e :: rest) (o1 ++ o2) (fun Z=>JR (f Z) fun a=>JR (g Z) fun b=>some (.ok (a.1 :: b))):=by
 intro A l env Z vf s pos r Q E hsc hR hRd hf hQ hE
 obtain ⟨m,hn⟩:=hRd.ns
 refine args_cons (h1.run hsc hR hRd hf (fun a la _ hf va fa s1z st1z ra ta lva hR1 hRd1=>?_) hE) (hs _ _)
 obtain ⟨m1z,hn1z⟩:=hRd1.ns
 refine h2.run hsc hR1 hRd1 hf (fun b _ hf vb fb s2z st2z rb tb hR2z hRd2z=>?_) (fun x k s' e fl=>hE x k s' e (fl.back st1z hn))
 exact hQ _ _ _ _ ((vAy hf).symm) (st1z.trans st2z) (.cons (st2z.kp.rp hn1z ra) rb) (ta.left.append (tb.back fun y hy=>st1z.kp.gone hn hy).right)
theorem Jq (h:Heap):h.get? h.objs.size = none:=vCA (vBI _)
def vg (ds:List D):Nat:=if D.flats ds then 2 else 1
theorem jSN {a:Addr} (r:Rps X h1z vs ds fp) (h1:h1z.get? a = none) (ha:h.get? a = none) (hd:Nd h' a):Lv h h' (vg ds) (a :: fp):=by
 unfold vg
 split
 ·rename_i hfl
  rw [r.flat_fp hfl]
  exact Lv.one ha hd
 ·exact ⟨fun _ b t e=>by cases e;exact ⟨ha,(fun hm=>by obtain ⟨o,_,_,e,_⟩:=r.fp_list a hm;rw [h1] at e;exact nos e:a ∉ fp),hd⟩,fun h=>absurd h (by decide)⟩
def J3 (ds:List D):Tj:=if ds.length <= 1000000 then some (.ok (.list ds,vg ds)) else none
theorem JV {f:G -> Option (R (List D))} (h1:DenA c hm n sc nm es o1 f) :
  Den c hm n sc nm (.List es pos) o1 (fun Z=>JR (f Z) J3):=by
 intro A l env Z vf s r Q E hsc hR hRd hf hQ hE
 obtain ⟨m,hn⟩:=hRd.ns
 refine List_ (h1.run hsc hR hRd hf (fun ds _ hf vs fs s1z st1z rs ts hR1 hRd1=>?_) hE)
 obtain ⟨hlen,hf⟩:=ifs hf
 ·skip
  refine vBm ?_ (show vs.toArray.size <= sizeLine by rw [vCX,rs.length];unfold sizeLine;exact vAz hlen (by decide))
  refine hQ _ _ _ _ _ ((vAy hf).symm) (st1z.trans (St.push (c:=c) (L:=env.locals) (s:=s1z) hRd1.bs { cls:=.type "list",data:=.seq vs.toArray })) (.list (vBL _ rfl) rfl rfl (by simpa using rs.keep fun b o e _=>vBB _ e)) ?_ (jSN rs (Jq _) (st1z.kp.gone hn (Jq _)) ⟨_,_,_,vBL _ rfl,rfl,rfl⟩)
  intro a ha
  rcases vCu.mp ha with hqq | ha
  ·rw [hqq];exact .inl (st1z.kp.gone hn (Jq _))
  ·exact ts a ha
def yW (ds:List D):Tj:=if ds.length <= 1000000 then some (.ok (.tup ds,if D.flats ds then 2 else 0)) else none
theorem QF {f:G -> Option (R (List D))} (h1:DenA c hm n sc nm es o1 f) :
  Den c hm n sc nm (.Tuple es k pos) o1 (fun Z=>JR (f Z) yW):=by
 intro A l env Z vf s r Q E hsc hR hRd hf hQ hE
 obtain ⟨m,hn⟩:=hRd.ns
 refine Tuple_ (h1.run hsc hR hRd hf (fun ds _ hf vs fs s1z st1z rs ts hR1 hRd1=>?_) hE)
 obtain ⟨hlen,hf⟩:=ifs hf
 ·skip
  refine vBm ?_ (show vs.toArray.size <= sizeLine by rw [vCX,rs.length];unfold sizeLine;exact vAz hlen (by decide))
  refine hQ _ _ _ _ _ ((vAy hf).symm) (st1z.trans (St.push (c:=c) (L:=env.locals) (s:=s1z) hRd1.bs { cls:=.type "tuple",data:=.seq vs.toArray })) (.tup (vBL _ rfl) rfl rfl (by simpa using rs.keep fun b o e _=>vBB _ e)) ts ?_
  split
  ·rename_i hfl
   rw [rs.flat_fp hfl];exact Lv.nil _ _
  ·exact Lv.zero _ _
noncomputable def big:Nat:=1000000000
def Qp:D -> Option Bool
 | .none=>some false
 | .bool b=>some b
 | .int i=>some (i != 0)
 | .str s=>if s.length <= big then some (!s.isEmpty) else none
 | .list xs=>if xs.length <= big then some (!xs.isEmpty) else none
 | _=>none
theorem OpN.ok (h:OpN c hm n op F) {m:Str -> Option Value} {s:Shared} {Q:Ta}
  (hR:Room c hm n A l s.heap) (hn:s.heap.Ns L m) (nb:c.base.get? L = none) (hb:Gd c s) (rs:Rps c.mg s.heap vs ds fp) (hf:F ds = some (.ok (d,lv)))
  (hQ:∀ v fp' s',St c L s s' -> Rp c.mg s'.heap v d fp' -> (∀ a ∈ fp',s.heap.get? a = none \/ a ∈ fp \/ Fz c a) -> Lv s.heap s'.heap lv fp' -> Q v s'):wpAny (model c.prog c.w) A (op vs) Q E s :=
 h A l L m s vs ds fp _ Q E hR hn nb hb rs hf (fun v d' lv' fp' s' e=>by cases e;exact hQ v fp' s') fun _ _ _ e=>rno e
theorem Qs {s:Shared} {v:Value} {b:Bool} {Q:Bool -> Shared -> Prop} (hb:Gd c s)
  (r:Rp c.mg s.heap v d fp) (h:Qp d = some b) (hQ:∀ s',St c L s s' -> Q b s'):wpAny (model c.prog c.w) A (truthy v) Q E s:=by
 cases r with
 | none=>obtain rfl:=vAy h;exact truthy_none (hQ _ (St.refl hb))
 | bool b'=>obtain rfl:=vAy h;exact wpAny_truthy_bool (hQ _ (St.refl hb))
 | int i t=>obtain rfl:=vAy h;exact PyProof.Rows.truthy_int (hQ _ (St.refl hb))
 | str x t =>
  obtain ⟨hl,h⟩:=ifs h
  ·obtain rfl:=vAy h
   refine PySem.P.truthy_str ?_ ?_
   ·rw [(by simp [Str.length]:(Str.mk x.toArray).length = x.length)];exact Int.not_le.mpr (Int.lt_of_le_of_lt (zL hl) (by decide))
   ·have:(((Str.mk x.toArray).length:Int) != 0) = !x.isEmpty:=by
     rw [(by simp [Str.length]:(Str.mk x.toArray).length = x.length)]
     cases x with
     | nil=>rfl
     | cons=>exact bne_iff_ne.mpr (fun q=>nomatch q)
    rw [this];exact hQ _ (St.tok hb 2)
 | @list a o vs k xs f h1 h2 h3 rs =>
  obtain ⟨hl,h⟩:=ifs h
  ·obtain rfl:=vAy h
   refine wpAny_truthy_list (items:=vs) ⟨o,h1,h2,k,h3⟩ ?_ ?_
   ·rw [(by simpa using rs.length:vs.size = xs.length)];exact Int.lt_of_le_of_lt (zL hl) (by decide)
   ·have:(!vs.isEmpty) = !xs.isEmpty:=by
     congr 1
     rw [vCk,Array.isEmpty_iff_size_eq_zero,(by simpa using rs.length:vs.size = xs.length)]
     cases xs <;> simp
    rw [this];exact hQ _ (St.tok hb 2)
 | tup=>exact nos h
 | ob=>exact nos h
 | exc=>exact nos h
theorem QQ {o:List Nat} (h1:Den c hm n sc nm e o f)
  (he:autoParam (∀ env whole,isTrue e env whole = (do let v <- whole;standAt e.pos;holding [v] (truthy v))) yN) :
  DenB c hm n sc nm e (fun Z=>JR (f Z) fun a=>(Qp a.1).map .ok):=by
 intro A l env Z vf s r Q E hsc hR hRd hf hQ hE
 refine isTrue_plain (h1.run hsc hR hRd hf (fun a la _ hf va fa s1z st1z ra ta lva hR1 hRd1=>?_) hE) (he _ _)
 obtain ⟨b,hb,rfl⟩:=vBD.mp hf
 exact Qs hRd1.bs ra hb fun s' st=>hQ _ _ rfl (st1z.trans st)
theorem QY {f:G -> Option (R Bool)} (h1:DenB c hm n sc nm e f):DenB c hm n sc nm (.UnaryOp .Not e pos) (fun Z=>JR (f Z) fun b=>some (.ok (!b))):=by
 intro A l env Z vf s r Q E hsc hR hRd hf hQ hE
 refine isTrue_not (h1.run hsc hR hRd hf (fun b _ hf s' st _ _=>?_) hE)
 exact hQ _ _ ((vAy hf).symm) st
theorem JJ {op:CmpOp} {g:Tg}
  (ho:OpN c hm n (vD op) F) (h1:Den c hm n sc nm e1z o1 f) (h2:Den c hm n sc nm e2z o2 g) (hmk:autoParam (behindInMarks op e2z = false) yK) :
  DenB c hm n sc nm (.Compare e1z [op] [e2z] pos) (fun Z=>JR (f Z) fun a=>JR (g Z) fun b=>JR (F [a.1,b.1]) fun d=>(Qp d.1).map .ok):=by
 intro A l env Z vf s r Q E hsc hR hRd hf hQ hE
 obtain ⟨m,hn⟩:=hRd.ns
 refine wpAny_isTrue_Compare1 (h1.run hsc hR hRd hf (fun a la _ hf va fa s1z st1z ra ta lva hR1 hRd1=>?_) hE) hmk
 obtain ⟨m1z,hn1z⟩:=hRd1.ns
 refine h2.run hsc hR1 hRd1 hf (fun b lb _ hf vb fb s2z st2z rb tb lvb hR2z hRd2z=>?_) (fun x k s' e fl=>hE x k s' e (fl.back st1z hn))
 obtain ⟨m2z,hn2z⟩:=hRd2z.ns
 rcases J6 hf with ⟨⟨d,lv⟩,h5,h6⟩ | ⟨k,h5,rfl⟩
 ·refine ho.ok (vs:=[va,vb]) (ds:=[a,b]) hR2z hn2z hRd2z.nb hRd2z.bs (Rps.two (st2z.kp.rp hn1z ra) rb) h5 (fun v fp s3z st3z rp tr lvl=>?_)
  obtain ⟨bb,hb,rfl⟩:=vBD.mp h6
  exact Qs st3z.bs rp hb fun s' st=>hQ _ _ rfl ((st1z.trans st2z).trans (st3z.trans st))
 ·exact ho A l env.locals m2z s2z [va,vb] [a,b] (fa ++ fb) _ _ E hR2z hn2z hRd2z.nb hRd2z.bs (Rps.two (st2z.kp.rp hn1z ra) rb) h5 (fun v d' lv' fp s3z e=>rnx e) (fun x k' s' e fl=>by cases e;exact hE x k s' rfl ((fl.back st2z hn1z).back st1z hn))
def qHU (c:Cx) (hm:Bool) (n:Nat) (sc:Scope) (nm:List Str) (op:BoolOp) (es:List Expr) (f:G -> Option (R Bool)):Prop :=
 ∀ (A:Around) (l:List Env) (env:Env) (Z:G) (vf:Tb) (s:Shared) (r:R Bool) (Q:Bool -> Shared -> Prop) (E:Ta),
  env.scope = sc -> Room c hm n A l s.heap -> Rd c env nm Z vf s -> f Z = some r -> 
  (∀ b s',r = .ok b -> St c env.locals s s' -> Q b s') -> 
  (∀ x k s',r = .exc k -> Fly c env.locals l s x k s' -> E x s') -> 
  wpAny (model c.prog c.w) A (allTrue op es env) Q E s
theorem vN:qHU c hm n sc nm .And [] (fun _=>some (.ok true)):=by
 intro A l env Z vf s r Q E hsc hR hRd hf hQ hE
 exact wpAny_allTrue_And_nil (hQ _ _ ((vAy hf).symm) (St.refl hRd.bs))
theorem J5:qHU c hm n sc nm .Or [] (fun _=>some (.ok false)):=by
 intro A l env Z vf s r Q E hsc hR hRd hf hQ hE
 exact wpAny_allTrue_Or_nil (hQ _ _ ((vAy hf).symm) (St.refl hRd.bs))
theorem vr {f g:G -> Option (R Bool)} (h1:DenB c hm n sc nm e f) (h2:qHU c hm n sc nm .And es g) :
  qHU c hm n sc nm .And (e :: es) (fun Z=>JR (f Z) fun b=>if b then g Z else some (.ok false)):=by
 intro A l env Z vf s r Q E hsc hR hRd hf hQ hE
 obtain ⟨m,hn⟩:=hRd.ns
 refine wpAny_allTrue_And_cons (h1.run hsc hR hRd hf (fun b _ hf s' st hR' hRd'=>?_) hE)
 cases b with
 | true=>exact h2 A l env Z vf s' r Q E hsc hR' hRd' hf (fun b s'' e st'=>hQ b s'' e (st.trans st')) fun x k s'' e fl=>hE x k s'' e (fl.back st hn)
 | false=>exact hQ _ _ ((vAy hf).symm) st
theorem Js {f g:G -> Option (R Bool)} (h1:DenB c hm n sc nm e f) (h2:qHU c hm n sc nm .Or es g) :
  qHU c hm n sc nm .Or (e :: es) (fun Z=>JR (f Z) fun b=>if b then some (.ok true) else g Z):=by
 intro A l env Z vf s r Q E hsc hR hRd hf hQ hE
 obtain ⟨m,hn⟩:=hRd.ns
 refine wpAny_allTrue_Or_cons (h1.run hsc hR hRd hf (fun b _ hf s' st hR' hRd'=>?_) hE)
 cases b with
 | false=>exact h2 A l env Z vf s' r Q E hsc hR' hRd' hf (fun b s'' e st'=>hQ b s'' e (st.trans st')) fun x k s'' e fl=>hE x k s'' e (fl.back st hn)
 | true=>exact hQ _ _ ((vAy hf).symm) st
theorem QD {op:BoolOp} {f:G -> Option (R Bool)} (h:qHU c hm n sc nm op es f):DenB c hm n sc nm (.BoolOp op es pos) f:=by
 intro A l env Z vf s r Q E hsc hR hRd hf hQ hE
 exact wpAny_isTrue_BoolOp (h A l env Z vf s r Q E hsc hR hRd hf hQ hE)
theorem jUY {op1 op2:CmpOp} {F1 F2:Td} {e3z:Expr} {o3:List Nat} {g k:Tg}
  (ho1z:OpN c hm n (vD op1) F1) (ho2z:OpN c hm n (vD op2) F2) (h1:Den c hm n sc nm e1z o1 f) (h2:Den c hm n sc nm e2z o2 g) (h3:Den c hm n sc nm e3z o3 k)
  (hmk:autoParam (lastMarks [op1,op2] [e2z,e3z] = false) yK) :
  DenB c hm n sc nm (.Compare e1z [op1,op2] [e2z,e3z] pos) (fun Z=>JR (f Z) fun a=>JR (g Z) fun b=>JR (F1 [a.1,b.1]) fun d=>JR ((Qp d.1).map .ok) fun t =>
   if t then JR (k Z) fun e=>JR (F2 [b.1,e.1]) fun d=>(Qp d.1).map .ok else some (.ok false)):=by
 intro A l env Z vf s r Q E hsc hR hRd hf hQ hE
 obtain ⟨m,hn⟩:=hRd.ns
 refine isTrue_chain (h1.run hsc hR hRd hf (fun a la _ hf va fa s1z st1z ra ta lva hR1 hRd1=>?_) hE) hmk
 obtain ⟨m1z,hn1z⟩:=hRd1.ns
 refine test_link (h2.run hsc hR1 hRd1 hf (fun b lb _ hf vb fb s2z st2z rb tb lvb hR2z hRd2z=>?_) (fun x k s' e fl=>hE x k s' e (fl.back st1z hn)))
 obtain ⟨m2z,hn2z⟩:=hRd2z.ns
 rcases J6 hf with ⟨⟨d,lv⟩,h5,hf⟩ | ⟨k,h5,rfl⟩
 ·refine ho1z.ok (vs:=[va,vb]) (ds:=[a,b]) hR2z hn2z hRd2z.nb hRd2z.bs (Rps.two (st2z.kp.rp hn1z ra) rb) h5 (fun v fp s3z st3z rp tr lvl=>?_)
  rcases J6 hf with ⟨t,h6,hf⟩ | ⟨k,h6,rfl⟩
  ·refine nn fun gN=>?_
   obtain ⟨tt,hb,e⟩:=vBD.mp h6
   cases e
   refine gN ?_
   refine Qs (L:=env.locals) st3z.bs rp hb fun s4z st4z=>?_
   have st:=(st1z.trans st2z).trans (st3z.trans st4z)
   cases t with
   | false=>exact hQ _ _ ((vAy hf).symm) st
   | true =>
    refine test_last ?_
    refine h3.run hsc (hR.keep st.kp hn) (hRd.keep st) hf (fun b' lb' _ hf vb' fb' s5 st5z rb' tb' lvb' hR5z hRd5=>?_) (fun x k s' e fl=>hE x k s' e (fl.back st hn))
    obtain ⟨m5z,hn5⟩:=hRd5.ns
    rcases J6 hf with ⟨⟨d,lv⟩,h7,hf⟩ | ⟨k,h7,rfl⟩
    ·refine ho2z.ok (vs:=[vb,vb']) (ds:=[b,b']) hR5z hn5 hRd5.nb hRd5.bs (Rps.two (st5z.kp.rp (st.kp.ns m hn) ((st3z.trans st4z).kp.rp hn2z rb)) rb') h7 (fun v fp s6 st6 rp tr lvl=>?_)
     obtain ⟨t2,hb2,rfl⟩:=vBD.mp hf
     exact Qs st6.bs rp hb2 fun s' st'=>hQ _ _ rfl (st.trans (st5z.trans (st6.trans st')))
    ·exact ho2z A l env.locals m5z s5 [vb,vb'] [b,b'] (fb ++ fb') _ _ E hR5z hn5 hRd5.nb hRd5.bs (Rps.two (st5z.kp.rp (st.kp.ns m hn) ((st3z.trans st4z).kp.rp hn2z rb)) rb') h7 (fun v d' lv' fp s3z e=>rnx e) (fun x k' s' e fl=>by cases e;exact hE x k s' rfl ((fl.back st5z (st.kp.ns m hn)).back st hn))
  ·obtain ⟨_,_,e⟩:=vBD.mp h6;cases e
 ·exact ho1z A l env.locals m2z s2z [va,vb] [a,b] (fa ++ fb) _ _ E hR2z hn2z hRd2z.nb hRd2z.bs (Rps.two (st2z.kp.rp hn1z ra) rb) h5 (fun v d' lv' fp s3z e=>rnx e) (fun x k' s' e fl=>by cases e;exact hE x k s' rfl (fl.back (st1z.trans st2z) hn))
def qID (a:D × Nat) (g:Tj):Tj:=match Qp a.1 with | some true=>g | some false=>some (.ok a) | none=>none
def orF (a:D × Nat) (g:Tj):Tj:=match Qp a.1 with | some false=>g | some true=>some (.ok a) | none=>none
theorem Yw {op:BoolOp} {o:List Nat} (h:Den c hm n sc nm e o f):Den c hm n sc nm (.BoolOp op [e] pos) o f:=by
 intro A l env Z vf s r Q E hsc hR hRd hf hQ hE
 exact BoolOp_one (h A l env Z vf s r Q E hsc hR hRd hf hQ hE)
theorem qN {g:Tg}
  (h1:Den c hm n sc nm e1z o1 f) (h2:Den c hm n sc nm (.BoolOp .And (e2z :: rest) pos) o2 g) :
  Den c hm n sc nm (.BoolOp .And (e1z :: e2z :: rest) pos) (o1 ++ o2) (fun Z=>JR (f Z) fun a=>qID a (g Z)):=by
 intro A l env Z vf s r Q E hsc hR hRd hf hQ hE
 obtain ⟨m,hn⟩:=hRd.ns
 refine BoolOp_and (h1.run hsc hR hRd hf (fun a la _ hf va fa s1z st1z ra ta lva hR1 hRd1=>?_) hE)
 obtain ⟨m1z,hn1z⟩:=hRd1.ns
 unfold qID at hf
 rcases hb:Qp a with _ | _ | _ <;> simp only [hb] at hf
 ·exact nos hf
 rotate_left
 ·refine Qs (L:=env.locals) hRd1.bs ra hb fun s2z st2z=>?_
  have st:=st1z.trans st2z
  exact h2 A l env Z vf s2z r Q E hsc (hR.keep st.kp hn) (hRd.keep st) hf (fun v d lv fp s' e st' rp tr lvl=>hQ v d lv fp s' e (st.trans st') rp (tr.back fun x hx=>st.kp.gone hn hx).right (lvl.back fun x hx=>st.kp.gone hn hx))
   fun x k s' e fl=>hE x k s' e (fl.back st hn)
 ·exact Qs (L:=env.locals) hRd1.bs ra hb fun s2z st2z=>hQ _ _ _ _ _ ((vAy hf).symm) (st1z.trans st2z) (st2z.kp.rp hn1z ra) ta.left (lva.keep st2z.kp hn1z)
theorem jMH {g:Tg}
  (h1:Den c hm n sc nm e1z o1 f) (h2:Den c hm n sc nm (.BoolOp .Or (e2z :: rest) pos) o2 g) :
  Den c hm n sc nm (.BoolOp .Or (e1z :: e2z :: rest) pos) (o1 ++ o2) (fun Z=>JR (f Z) fun a=>orF a (g Z)):=by
 intro A l env Z vf s r Q E hsc hR hRd hf hQ hE
 obtain ⟨m,hn⟩:=hRd.ns
 refine BoolOp_or (h1.run hsc hR hRd hf (fun a la _ hf va fa s1z st1z ra ta lva hR1 hRd1=>?_) hE)
 obtain ⟨m1z,hn1z⟩:=hRd1.ns
 unfold orF at hf
 rcases hb:Qp a with _ | _ | _ <;> simp only [hb] at hf
 ·exact nos hf
 ·refine Qs (L:=env.locals) hRd1.bs ra hb fun s2z st2z=>?_
  have st:=st1z.trans st2z
  exact h2 A l env Z vf s2z r Q E hsc (hR.keep st.kp hn) (hRd.keep st) hf (fun v d lv fp s' e st' rp tr lvl=>hQ v d lv fp s' e (st.trans st') rp (tr.back fun x hx=>st.kp.gone hn hx).right (lvl.back fun x hx=>st.kp.gone hn hx))
   fun x k s' e fl=>hE x k s' e (fl.back st hn)
 ·exact Qs (L:=env.locals) hRd1.bs ra hb fun s2z st2z=>hQ _ _ _ _ _ ((vAy hf).symm) (st1z.trans st2z) (st2z.kp.rp hn1z ra) ta.left (lva.keep st2z.kp hn1z)
def Glb (c:Cx) (x:Str) (v:Value):Prop:=c.mg x = some v \/ (c.mg x = none /\ c.mb x = some v)
theorem J8 {v:Value} {s:Shared} {Q:Ta} (ok:c.Ok) (hRd:Rd c env nm Z vf s)
  (hsc:env.scope = sc) (hk:sc.names.lookup x = some .globalImplicit) (hd:(x == ("__debug__":Str)) = false) (g:Glb c x v) (h:Q v s):wpAny (model c.prog c.w) A (eval (.Name x pos) env) Q E s:=by
 have hg:s.heap.Ns env.globals c.mg:=by rw [hRd.gl];exact ok.g.keeps hRd.bs.1
 refine Name_function_global hRd.fn (by unfold Env.kindOf;rw [hsc];exact hk) ?_ hd
 rcases g with g | ⟨g1,g2⟩
 ·exact loadGlobal_global hg g h
 ·exact loadGlobal_builtin hg g1 (by rw [hRd.bl];exact ok.b.keeps hRd.bs.1:s.heap.Ns env.builtins c.mb) g2 h
def Fn (c:Cx) (hm:Bool) (n:Nat) (f:Str) (F:Td):Prop :=
 ∃ a o fd,c.mg f = some (.ref a) /\ c.base.get? a = some o /\ o.data = .func fd /\ OpN c hm n (fun vs=>call (.ref a) vs) F
theorem vM {f:G -> Option (R (List D))} (ho:OpN c hm n op F) (h1:DenA c hm n sc nm es o1 f)
  {s:Shared} {Q:Ta} 
  (hsc:env.scope = sc) (hR:Room c hm n A l s.heap) (hRd:Rd c env nm Z vf s) (hf:JR (f Z) F = some r)
  (hQ:∀ v d lv fp s',r = .ok (d,lv) -> St c env.locals s s' -> Rp c.mg s'.heap v d fp -> Tr c s.heap vf o1 fp -> Lv s.heap s'.heap lv fp -> Q v s')
  (hE:∀ x k s',r = .exc k -> Fly c env.locals l s x k s' -> E x s') :
  wpAny (model c.prog c.w) A (spliced (backTo pos (starEach es env))) (fun vs s1z=>St c env.locals s s1z /\ wpAny (model c.prog c.w) A (op vs) Q E s1z) E s:=by
 obtain ⟨m,hn⟩:=hRd.ns
 refine h1.run hsc hR hRd hf (fun ds _ hf vs fs s1z st1z rs ts hR1 hRd1=>⟨st1z,?_⟩) hE
 obtain ⟨m1z,hn1z⟩:=hRd1.ns
 refine ho A l env.locals m1z s1z vs ds fs r Q E hR1 hn1z hRd1.nb hRd1.bs rs hf (fun v d lv fp s2z e st2z rp tr lvl=>?_) (fun x k s' e fl=>hE x k s' e (fl.back st1z hn))
 refine hQ v d lv fp s2z e (st1z.trans st2z) rp (fun x hx=>?_) (lvl.back fun x hx=>st1z.kp.gone hn hx)
 rcases tr x hx with h | h | h
 ·exact .inl (st1z.kp.gone hn h)
 ·exact ts x h
 ·exact .inr (.inr h)
theorem JO {f:Str} {g:G -> Option (R (List D))} (ok:c.Ok) (hf:Fn c hm n f F)
  (h1:DenA c hm n sc nm (e :: rest) o1 g) (hk:autoParam (sc.names.lookup f = some .globalImplicit) yK) (hd:autoParam ((f == ("__debug__":Str)) = false) yK) (hs:autoParam (QC e) yN) :
  Den c hm n sc nm (.Call (.Name f np) (e :: rest) [] pos) o1 (fun Z=>JR (g Z) F):=by
 intro A l env Z vf s r Q E hsc hR hRd hf' hQ hE
 refine nn fun gN=>?_
 obtain ⟨a,o,fd,h2,h3,h4,ho⟩:=hf
 refine gN ?_
 clear gN
 refine Call_ (J8 ok hRd hsc hk hd (.inl h2) ?_) (by rfl)
 refine callWith_def (o:=o) (fd:=fd) h4 (vCO (vM ho h1 hsc hR hRd hf' hQ hE) (fun vs s1z h=>⟨h.1.bs.1 a o h3,h.2⟩) fun _ _ x=>x) (hs _ _)
def jKL (es:List Expr):Prop:=∀ env pos,(backTo pos (starEach es env)).any (·.1) = false
theorem Jc {id:String} {g:G -> Option (R (List D))} (ok:c.Ok) (hg:Glb c x (.builtin id))
  (ho:OpN c hm n (fun vs=>call (.builtin id) vs) F) (h1:DenA c hm n sc nm (e :: rest) o1 g) (hk:autoParam (sc.names.lookup x = some .globalImplicit) yK) (hd:autoParam ((x == ("__debug__":Str)) = false) yK)
  (hs:autoParam (QC e) yN) (hp:autoParam (jKL rest) yN) :
  Den c hm n sc nm (.Call (.Name x np) (e :: rest) [] pos) o1 (fun Z=>JR (g Z) F):=by
 intro A l env Z vf s r Q E hsc hR hRd hf' hQ hE
 refine Call_ (J8 ok hRd hsc hk hd hg ?_) (by rfl)
 exact vBq (vCO (vM ho h1 hsc hR hRd hf' hQ hE) (fun vs s1z h=>h.2) fun _ _ x=>x) (hs _ _) (hp _ _)
theorem Ze {T:String} {g:G -> Option (R (List D))} (ok:c.Ok) (hg:Glb c x (.type T))
  (ho:OpN c hm n (fun vs=>call (.type T) vs) F) (h1:DenA c hm n sc nm (e :: rest) o1 g) (hk:autoParam (sc.names.lookup x = some .globalImplicit) yK) (hd:autoParam ((x == ("__debug__":Str)) = false) yK)
  (hs:autoParam (QC e) yN) (hp:autoParam (jKL rest) yN) :
  Den c hm n sc nm (.Call (.Name x np) (e :: rest) [] pos) o1 (fun Z=>JR (g Z) F):=by
 intro A l env Z vf s r Q E hsc hR hRd hf' hQ hE
 refine Call_ (J8 ok hRd hsc hk hd hg ?_) (by rfl)
 exact PyProof.Rows.callWith_type1 (vCO (vM ho h1 hsc hR hRd hf' hQ hE) (fun vs s1z h=>h.2) fun _ _ x=>x) (hs _ _) (hp _ _)
end
noncomputable def jNB (L:Addr) (h:Heap):List (Addr × Obj):=(List.range h.objs.size).filterMap fun b=>if b = L then none else (h.get? b).map fun o=>(b,o)
theorem jUD (hb:b ≠ L) (e:h.get? b = some o):(b,o) ∈ jNB L h:=by
 unfold jNB
 rw [List.mem_filterMap]
 exact ⟨b,vBV.mpr (vBb e),by rw [if_neg hb,e];rfl⟩
theorem jGJ (b:Addr):({}:Heap).get? b = none:=vCA (vBz _)
theorem qDU {m:Str -> Option Value} (hn:h.Ns L m):Fr {} L h m:=⟨hn,fun b o e=>absurd e (by rw [jGJ];simp),vBz _⟩
theorem qDT:News {} L h (jNB L h):=by
 intro p hp
 unfold jNB at hp
 obtain ⟨b,hb,e⟩:=List.mem_filterMap.mp hp
 split at e
 ·exact nos e
 ·rename_i hne
  obtain ⟨o,ho,e⟩:=vBD.mp e
  subst e
  exact ⟨ho,hne,jGJ b⟩
theorem jDI {m:Str -> Option Value} (a:h.Ns L m) (b:h.Ns L m'):m = m':=by
 obtain ⟨o,es,ep,h1,h2,h3,h4⟩:=a
 obtain ⟨o',es',ep',h1',h2',h3',h4'⟩:=b
 rw [h1] at h1';obtain rfl:=vAy h1'
 rw [h2] at h2';cases h2'
 funext x;rw [<- h4,<- h4']
theorem jCT {s:Shared} {m:Str -> Option Value} {extra:List (Addr × Obj)} (hn:s.heap.Ns L m) (nb:c.base.get? L = none) (hb:Gd c s)
  (F:Fr {} L h' m) (N:News {} L h' (extra ++ jNB L s.heap)) (ht:1 <= tk):St c L s { s with heap:=h',toks:=tk }:=by
 have k:∀ b o,b ≠ L -> s.heap.get? b = some o -> h'.get? b = some o:=fun b o hb e=>(N _ (vBQ _ (jUD hb e))).1
 refine ⟨⟨_,_,rfl⟩,⟨fun b o hb e _=>k b o hb e,fun b o hb e=>⟨o.slots,k b o hb e⟩,fun m' e=>by rw [jDI e hn];exact F.ns⟩,fun b o e=>?_,ht⟩
 exact k b o (fun q=>by rw [q,nb] at e;exact nos e) (hb.1 b o e)
noncomputable def lim:Nat:=10000000
noncomputable def okI (i:Int):Tj:=some (.ok (.int i,2))
noncomputable def okB (b:Bool):Tj:=some (.ok (.bool b,2))
def okS (s:List Nat):Tj:=if s.length <= lim then some (.ok (.str s,2)) else none
def okL (xs:List D):Tj:=if xs.length <= lim then some (.ok (.list xs,vg xs)) else none
theorem vE (s:List Nat):(Str.mk s.toArray).length = s.length:=by simp [Str.length]
theorem qAP (a b:List Nat):Str.mk a.toArray ++ Str.mk b.toArray = Str.mk (a ++ b).toArray:=by
 have:(Str.mk a.toArray ++ Str.mk b.toArray).cps = a.toArray ++ b.toArray:=rfl
 have h2:(Str.mk a.toArray ++ Str.mk b.toArray) = Str.mk ((Str.mk a.toArray ++ Str.mk b.toArray).cps):=rfl
 rw [h2,this]
 simp
section
variable {n:Nat}
inductive Inv2 (X:Str -> Option Value) (h:Heap) (a b:D):List Value -> List Addr -> Prop
 | mk (va vb:Value) (fa fb:List Addr) (ra:Rp X h va a fa) (rb:Rp X h vb b fb):Inv2 X h a b [va,vb] (fa ++ fb)
theorem Rps.inv2 {a b:D} (r:Rps X h vs [a,b] fp):Inv2 X h a b vs fp:=by
 obtain ⟨ra,rs⟩:=r.invC
 obtain ⟨rb,rs'⟩:=rs.invC
 obtain ⟨rfl,rfl⟩:=rs'.inv
 rw [List.append_nil]
 exact .mk _ _ _ _ ra rb
theorem Rps.ints2 {a b:Int} (r:Rps X h vs [.int a,.int b] fp):∃ t u,vs = [.int a t,.int b u] /\ fp = []:=by
 refine nn fun gN=>?_
 obtain ⟨va,vb,fa,fb,ra,rb⟩:=r.inv2
 obtain ⟨t,rfl,rfl⟩:=ra.inv
 obtain ⟨u,rfl,rfl⟩:=rb.inv
 refine gN ?_
 clear gN
 exact ⟨t,u,rfl,rfl⟩
theorem Rps.inv1 {a:D} (r:Rps X h vs [a] fp):∃ va,vs = [va] /\ Rp X h va a fp:=by
 obtain ⟨ra,rs⟩:=r.invC
 obtain ⟨rfl,rfl⟩:=rs.inv
 rw [List.append_nil]
 exact ⟨_,rfl,ra⟩
noncomputable def qFR {β:Type} (ds:List D) (K:D -> Option β):Option β:=match ds with
 | [a]=>K a
 | _=>none
noncomputable def jVY {β:Type} (ds:List D) (K:D -> D -> Option β):Option β:=match ds with
 | [a,b]=>K a b
 | _=>none
noncomputable def ofI {β:Type} (d:D) (K:Int -> Option β):Option β:=match d with
 | .int i=>K i
 | _=>none
noncomputable def ofS {β:Type} (d:D) (K:List Nat -> Option β):Option β:=match d with
 | .str i=>K i
 | _=>none
noncomputable def ofL {β:Type} (d:D) (K:List D -> Option β):Option β:=match d with
 | .list i=>K i
 | _=>none
noncomputable def qAD {β:Type} (d:D) (fi:Int -> Option β) (fs:List Nat -> Option β) (fl ft:List D -> Option β):Option β:=match d with
 | .int i=>fi i
 | .str i=>fs i
 | .list i=>fl i
 | .tup i=>ft i
 | _=>none
theorem j0 {β:Type} {K:D -> Option β} {r:β}:∀ {ds:List D},qFR ds K = some r -> ∃ a,ds = [a] /\ K a = some r:=by
 intro ds h
 cases ds with
 | nil=>exact nos h
 | cons a l=>cases l with | nil=>exact ⟨a,rfl,h⟩ | cons=>exact nos h
theorem Xu {β:Type} {K:D -> D -> Option β} {r:β}:∀ {ds:List D},jVY ds K = some r -> ∃ a b,ds = [a,b] /\ K a b = some r:=by
 intro ds h
 cases ds with
 | nil=>exact nos h
 | cons a l=>cases l with | nil=>exact nos h | cons b l=>cases l with | nil=>exact ⟨a,b,rfl,h⟩ | cons=>exact nos h
theorem Qe {β:Type} {K:Int -> Option β} {r:β} (h:ofI d K = some r):∃ i,d = .int i /\ K i = some r:=by cases d <;> first | exact nos h | exact ⟨_,rfl,h⟩
theorem jIN {β:Type} {K:List Nat -> Option β} {r:β} (h:ofS d K = some r):∃ i,d = .str i /\ K i = some r:=by cases d <;> first | exact nos h | exact ⟨_,rfl,h⟩
theorem Zh {β:Type} {K:List D -> Option β} {r:β} (h:ofL d K = some r):∃ i,d = .list i /\ K i = some r:=by cases d <;> first | exact nos h | exact ⟨_,rfl,h⟩
theorem qKZ {β:Type} {a:Addr} {K:Addr -> Option β} (h:Z[i]? = some (some (.ob a,lv))):atO Z i K = K a:=by unfold atO atV;rw [h];rfl
def atL {β:Type} (Z:G) (i:Nat) (K:List D -> Nat -> Option β):Option β:=atV Z i fun d lv=>ofL d fun xs=>K xs lv
theorem jKE {β:Type} {K:List D -> Nat -> Option β} {r:β} (h:atL Z i K = some r):∃ xs lv,Z[i]? = some (some (.list xs,lv)) /\ K xs lv = some r:=by
 obtain ⟨d,lv,e,h⟩:=jCI h
 obtain ⟨a,rfl,h⟩:=Zh h
 exact ⟨a,lv,e,h⟩
theorem qAO {β:Type} {xs:List D} {K:List D -> Nat -> Option β} (h:Z[i]? = some (some (.list xs,lv))):atL Z i K = K xs lv:=by unfold atL atV;rw [h];rfl
theorem vt {β:Type} {fi:Int -> Option β} {fs:List Nat -> Option β} {fl ft:List D -> Option β} {r:β} (h:qAD d fi fs fl ft = some r) :
  (∃ i,d = .int i /\ fi i = some r) \/ (∃ i,d = .str i /\ fs i = some r) \/ (∃ i,d = .list i /\ fl i = some r) \/ ∃ i,d = .tup i /\ ft i = some r:=by
 cases d <;> first | exact nos h | exact .inl ⟨_,rfl,h⟩ | exact .inr (.inl ⟨_,rfl,h⟩) | exact .inr (.inr (.inl ⟨_,rfl,h⟩)) | exact .inr (.inr (.inr ⟨_,rfl,h⟩))
def YC (ds:List D):Tj:=jVY ds fun a b=>qAD a (fun a=>ofI b fun b=>okI (a + b)) (fun a=>ofS b fun b=>okS (a ++ b)) (fun a=>ofL b fun b=>okL (a ++ b)) (fun _=>none)
inductive LObj (X:Str -> Option Value) (h:Heap) (xs:List D):Value -> List Addr -> Prop
 | mk (a:Addr) (vs:Array Value) (f:List Addr) (hl:h.IsList a vs) (rs:Rps X h vs.toList xs f):LObj X h xs (.ref a) (a :: f)
theorem QR {v:Value} {xs:List D} (r:Rp X h v (.list xs) fp):LObj X h xs v fp:=by
 obtain ⟨h1,h2,h3,h4⟩:=r.inv
 exact .mk _ _ _ ⟨_,h1,h2,_,h3⟩ h4
theorem jIS {v:Value} {xs:List D} (r:Rp X h v (.list xs) fp):∃ a vs f,v = .ref a /\ fp = a :: f /\ h.IsList a vs /\ Rps X h vs.toList xs f:=by
 refine nn fun gN=>?_
 obtain ⟨a,vs,f,h1,h2⟩:=QR r
 refine gN ?_
 clear gN
 exact ⟨a,vs,f,rfl,rfl,h1,h2⟩
theorem Ja:OpN c hm n (jOY .Add) YC:=by
 intro A l L m s vs ds fp r Q E hR hn nb hb rs hf hQ hE
 obtain ⟨a,b,rfl,h2⟩:=Xu hf
 clear hf
 rcases vt h2 with ⟨a,rfl,h3⟩ | ⟨a,rfl,h3⟩ | ⟨a,rfl,h3⟩ | ⟨_,_,hf⟩
 ·refine nn fun gN=>?_
  obtain ⟨b,rfl,hf⟩:=Qe h3
  obtain ⟨t,u,rfl,rfl⟩:=rs.ints2
  have hrr:=(vAy hf).symm
  refine gN ?_
  clear gN
  exact add_int (hQ _ _ _ _ _ hrr (St.tok hb 1) (.int _ _) (fun _ h=>nomatch h) (Lv.nil _ _))
 ·refine nn fun gN=>?_
  obtain ⟨b,rfl,hf⟩:=jIN h3
  obtain ⟨va,vb,fa,fb,ra,rb⟩:=rs.inv2
  obtain ⟨t,rfl,rfl⟩:=ra.inv
  obtain ⟨u,rfl,rfl⟩:=rb.inv
  unfold okS at hf
  refine gN ?_
  clear gN
  split at hf
  ·rename_i hlen
   have hrr:=(vAy hf).symm
   refine wpAny_with_toks hb.2 (SB.add (fun t' tk ht=>?_) ?_)
   ·rw [qAP]
    exact hQ _ _ _ _ _ hrr (St.toks hb _ ht) (.str _ _) (fun _ h=>nomatch h) (Lv.nil _ _)
   ·rw [vE,vE,<- vBO];unfold lim at hlen;unfold sizeLine;exact vAz hlen (by decide)
  ·exact nos hf
 ·refine nn fun gN=>?_
  obtain ⟨b,rfl,hf⟩:=Zh h3
  obtain ⟨va,vb,fa,fb,ra,rb⟩:=rs.inv2
  unfold okL at hf
  refine gN ?_
  clear gN
  split at hf
  ·refine nn fun gN=>?_
   rename_i hlen
   obtain ⟨x,vx,f,hx,rx⟩:=QR ra
   obtain ⟨y,vy,g,hy,ry⟩:=QR rb
   have hsz:vx.size + vy.size <= sizeLine:=by
    have h1:=rx.length;have h2:=ry.length
    simp only [vCN] at h1 h2
    rw [h1,h2,<- vBO];unfold lim at hlen;unfold sizeLine;exact vAz hlen (by decide)
   refine gN ?_
   clear gN
   refine add_arrays (qDU hn) qDT hx hy (fun h' F N=>?_) hsz
   refine hQ _ _ _ _ _ ((vAy hf).symm) (jCT (c:=c) (extra:=[_]) hn nb hb F N hb.2) (.list ((N _ (vBA ..)).1) rfl rfl (by simpa using ((jCT (c:=c) (extra:=[_]) hn nb hb F N hb.2).kp.rps hn rx).append ((jCT (c:=c) (extra:=[_]) hn nb hb F N hb.2).kp.rps hn ry))) ?_ (jSN (rx.append ry) (Jq _) (Jq _) ⟨_,_,_,((N _ (vBA ..)).1),rfl,rfl⟩)
   ·intro q hq
    rcases vCu.mp hq with hqq | hq
    ·rw [hqq];exact .inl (Jq _)
    ·refine .inr ?_
     rcases vBK.mp hq with h | h
     ·exact .inl (vBU _ (vBC _ h))
     ·exact .inl (vBQ _ (vBC _ h))
  ·exact nos hf
 ·exact nos hf
end
mutual
noncomputable def D.cmpb:D -> D -> Bool
 | .int _,.int _=>true
 | .str _,.str _=>true
 | .list xs,.list ys=>D.cmps xs ys
 | _,_=>false
noncomputable def D.cmps:List D -> List D -> Bool
 | x :: xs,y :: ys=>D.cmpb x y && D.cmps xs ys
 | _,_=>true
end
theorem qAA {a b:D} (h:D.cmpb a b = true):(∃ x y,a = .int x /\ b = .int y) \/ (∃ x y,a = .str x /\ b = .str y) \/ (∃ xs ys,a = .list xs /\ b = .list ys /\ D.cmps xs ys = true):=by
 cases a <;> first | exact bft h | skip
 ·cases b <;> first | exact bft h | exact .inl ⟨_,_,rfl,rfl⟩
 ·cases b <;> first | exact bft h | exact .inr (.inl ⟨_,_,rfl,rfl⟩)
 ·cases b <;> first | exact bft h | exact .inr (.inr ⟨_,_,rfl,rfl,h⟩)
mutual
noncomputable def D.dep:D -> Nat
 | .list xs=>D.deps xs + 1
 | .tup xs=>D.deps xs + 1
 | _=>0
noncomputable def D.deps:List D -> Nat
 | []=>0
 | x :: xs=>max (D.dep x) (D.deps xs)
end
mutual
noncomputable def D.eqb:D -> D -> Bool
 | .int a,.int b=>a == b
 | .str a,.str b=>a == b
 | .list xs,.list ys=>D.eqs xs ys
 | _,_=>false
noncomputable def D.eqs:List D -> List D -> Bool
 | [],[]=>true
 | x :: xs,y :: ys=>D.eqb x y && D.eqs xs ys
 | _,_=>false
end
theorem jZI (a b:List Nat):D.eqb (.str a) (.str b) = (a == b):=rfl
theorem zM (a b:List D):D.eqb (.list a) (.list b) = D.eqs a b:=rfl
theorem jJQ (x y:D) (a b:List D):D.eqs (x :: a) (y :: b) = (D.eqb x y && D.eqs a b):=rfl
theorem jJT (a:List D):D.dep (.list a) = D.deps a + 1:=rfl
theorem jMG (x:D) (a:List D):D.deps (x :: a) = max x.dep (D.deps a):=rfl
theorem qEP:∀ (xs ys:List D),D.eqs xs ys = ((List.range (min xs.length ys.length)).all (fun j=>D.eqb (xs.getD j .none) (ys.getD j .none)) && xs.length == ys.length):=by
 intro xs
 induction xs with
 | nil=>exact fun b=>by cases b <;> rfl
 | cons x xs ih =>
  intro ys
  cases ys with
  | nil=>rfl
  | cons y ys =>
  have e1:min (x :: xs).length (y :: ys).length = min xs.length ys.length + 1:=Nat.add_min_add_right ..
  have e2:((x :: xs).length == (y :: ys).length) = (xs.length == ys.length):=by simp
  rw [e1,e2,List.range_succ_eq_map,List.all_cons,List.all_map,jJQ,ih ys,Bool.and_assoc]
  simp [Function.comp_def]
theorem jJO {xs:List D} (h:xs.length = ys.length):D.eqs xs ys = (List.range xs.length).all (fun j=>D.eqb (xs.getD j .none) (ys.getD j .none)):=by
 rw [qEP,<- h,Nat.min_self];simp
theorem jEB {xs:List D} (h:xs.length ≠ ys.length):D.eqs xs ys = false:=by
 rw [qEP];simp [h]
theorem Rp.int_inv {v:Value} {x:Int} {f:List Addr} (r:Rp X h v (.int x) f):∃ t,v = .int x t:=let ⟨t,e,_⟩:=r.inv;⟨t,e⟩
theorem Rp.str_inv {v:Value} {x:List Nat} {f:List Addr} (r:Rp X h v (.str x) f):∃ t,v = .str ⟨x.toArray⟩ t:=let ⟨t,e,_⟩:=r.inv;⟨t,e⟩
inductive LInv (X:Str -> Option Value) (h:Heap) (xs:List D):Value -> Prop
 | mk (l:Addr) (vs:Array Value) (g:List Addr) (h1:h.IsList l vs) (h2:vs.size = xs.length) (h3:Rps X h vs.toList xs g):LInv X h xs (.ref l)
theorem Rp.list_inv {v:Value} {xs:List D} {f:List Addr} (r:Rp X h v (.list xs) f):LInv X h xs v:=by
 obtain ⟨a,vs,f,h1,h2⟩:=QR r
 exact ⟨a,vs,f,h1,by simpa using h2.length,h2⟩
theorem D.both {P:D -> Prop} {Ps:List D -> Prop} (h1:∀ i,P (.int i)) (h2:∀ s,P (.str s)) (h3:∀ xs,Ps xs -> P (.list xs)) (h4:∀ d,(∀ e,D.cmpb d e = false) -> P d) (h5:Ps []) (h6:∀ x xs,P x -> Ps xs -> Ps (x :: xs)) :
  (∀ d,P d) /\ (∀ ds,Ps ds) :=
 ⟨fun d=>D.rec (motive_1:=P) (motive_2:=Ps) (h4 _ fun e=>by cases e <;> rfl) (fun _=>h4 _ fun e=>by cases e <;> rfl) h1 h2 h3 (fun _ _=>h4 _ fun e=>by cases e <;> rfl) (fun _=>h4 _ fun e=>by cases e <;> rfl) (fun _=>h4 _ fun e=>by cases e <;> rfl) h5 h6 d,
  fun d=>D.rec_1 (motive_1:=P) (motive_2:=Ps) (h4 _ fun e=>by cases e <;> rfl) (fun _=>h4 _ fun e=>by cases e <;> rfl) h1 h2 h3 (fun _ _=>h4 _ fun e=>by cases e <;> rfl) (fun _=>h4 _ fun e=>by cases e <;> rfl) (fun _=>h4 _ fun e=>by cases e <;> rfl) h5 h6 d⟩
theorem qAB {x:Int} (h:D.cmpb (.int x) d = true):∃ y,d = .int y:=by cases d <;> first | exact ⟨_,rfl⟩ | cases h
theorem jZZ {x:List Nat} (h:D.cmpb (.str x) d = true):∃ y,d = .str y:=by cases d <;> first | exact ⟨_,rfl⟩ | cases h
theorem jTD {xs:List D} (h:D.cmpb (.list xs) d = true):∃ ys,d = .list ys /\ D.cmps xs ys = true:=by cases d <;> first | exact ⟨_,rfl,h⟩ | cases h
theorem zS {x:D} {xs:List D} {y:D} (h:D.cmps (x :: xs) (y :: ys) = true):D.cmpb x y = true /\ D.cmps xs ys = true:=by rw [D.cmps] at h;exact XM h
theorem rp_unique:(∀ (d d':D) (v:Value) (f f':List Addr),D.cmpb d d' = true -> Rp X h v d f -> Rp X h v d' f' -> D.eqb d d' = true) /\ 
  (∀ (xs ys:List D) (vs:List Value) (f f':List Addr),D.cmps xs ys = true -> Rps X h vs xs f -> Rps X h vs ys f' -> D.eqs xs ys = true):=by
 refine D.both (fun x d' v f f' hc r r'=>?_) (fun s d' v f f' hc r r'=>?_) (fun xs ih d' v f f' hc r r'=>?_) (fun d hd d' v f f' hc=>?_) (fun ys vs f f' _ r r'=>?_) (fun x xs ih1 ih2 ys vs f f' hc r r'=>?_)
 ·obtain ⟨y,rfl⟩:=qAB hc
  obtain ⟨t,rfl⟩:=r.int_inv;obtain ⟨u,hu⟩:=r'.int_inv;cases hu;exact beq_self_eq_true _
 ·obtain ⟨y,rfl⟩:=jZZ hc
  obtain ⟨t,rfl⟩:=r.str_inv;obtain ⟨u,hu⟩:=r'.str_inv
  injection hu with hu;injection hu with hu;rw [jZI,List.toArray_inj hu];exact beq_self_eq_true _
 ·refine nn fun gN=>?_
  obtain ⟨ys,rfl,hc⟩:=jTD hc
  obtain ⟨h1,_,h3,h4⟩:=r.inv
  obtain ⟨k1,_,k3,k4⟩:=r'.inv
  refine gN ?_
  clear gN
  rw [h1] at k1;obtain rfl:=vAy k1
  rw [h3] at k3;cases k3
  exact ih ys _ _ _ hc h4 k4
 ·rw [hd] at hc;cases hc
 ·obtain ⟨rfl,rfl⟩:=r.inv
  cases ys with
  | nil=>rfl
  | cons y ys=>cases r'.invC
 ·obtain ⟨h1,h2⟩:=r.invC
  cases ys with
  | nil=>cases r'.inv.1
  | cons y ys =>
   obtain ⟨k1,k2⟩:=r'.invC
   rw [jJQ,ih1 y _ _ _ (zS hc).1 h1 k1,ih2 ys _ _ _ (zS hc).2 h2 k2];rfl
theorem jOI (a b:List Nat):(Str.mk a.toArray == Str.mk b.toArray) = (a == b):=by
 rw [vCk,vBc,vBc,Str.mk.injEq]
 exact ⟨fun h=>List.toArray_inj h,fun h=>by rw [h]⟩
def EqP (X:Str -> Option Value) (a:D):Prop:=∀ (b:D) (A:Around) (s:Shared) (va vb:Value) (fa fb:List Addr),Rp X s.heap va a fa -> Rp X s.heap vb b fb -> D.cmpb a b = true -> A.units + a.dep < cLine -> EqAt A s va vb (D.eqb a b)
def qPB (X:Str -> Option Value) (xs:List D):Prop:=∀ (ys:List D) (A:Around) (s:Shared) (vs ws:List Value) (f g:List Addr),Rps X s.heap vs xs f -> Rps X s.heap ws ys g -> D.cmps xs ys = true -> A.units + D.deps xs < cLine -> 
  ∀ j (h1:j < vs.length) (h2:j < ws.length),EqAt A s vs[j] ws[j] (D.eqb (xs.getD j .none) (ys.getD j .none))
theorem eqAt_both:(∀ a,EqP X a) /\ (∀ xs,qPB X xs):=by
 refine D.both (fun x b A s va vb fa fb ra rb hc hu=>?_) (fun x b A s va vb fa fb ra rb hc hu=>?_) (fun xs ih b A s va vb fa fb ra rb hc hu=>?_) (fun d hd b A s va vb fa fb ra rb hc hu=>?_)
  (fun ys A s vs ws f g r r' hc hu j h1 h2=>?_) (fun x xs ih1 ih2 ys A s vs ws f g r r' hc hu j h1 h2=>?_)
 ·obtain ⟨y,rfl⟩:=qAB hc
  obtain ⟨t,rfl⟩:=ra.int_inv;obtain ⟨u,rfl⟩:=rb.int_inv
  exact EqAt.int_int x _ _ _
 ·obtain ⟨y,rfl⟩:=jZZ hc
  obtain ⟨t,rfl⟩:=ra.str_inv;obtain ⟨u,rfl⟩:=rb.str_inv
  rw [jZI,<- jOI]
  exact EqAt.str_str _ _ _ _
 ·refine nn fun gN=>?_
  obtain ⟨ys,rfl,hc'⟩:=jTD hc
  obtain ⟨l,vs,g,hl,n1,h4⟩:=ra.list_inv
  obtain ⟨l',vs',g',hl',n2,k4⟩:=rb.list_inv
  refine gN ?_
  clear gN
  rw [zM]
  by_cases hll:l = l'
  ·refine nn fun gN=>?_
   subst hll
   obtain ⟨_,h1,_,_,h3⟩:=hl
   obtain ⟨_,k1,_,_,k3⟩:=hl'
   refine gN ?_
   clear gN
   rw [h1] at k1;obtain rfl:=vAy k1
   rw [h3] at k3;cases k3
   rw [rp_unique.2 xs ys _ _ _ hc' h4 k4]
   exact EqAt.same _
  ·by_cases hsz:vs.size = vs'.size
   ·rw [jJO (n1.symm.trans (hsz.trans n2)),<- n1]
    exact EqAt.of_refs hll (RcAt.lists hl hl' hsz (vBh (vBW ..) hu:A.units < cLine) fun j j1 j2=>ih ys A.in1 s vs.toList vs'.toList _ _ h4 k4 hc' (by rw [jJT] at hu;exact lN [_,_,_] (.a (.a (.a (.v 0) (.n 1)) (.v 1)) (.n 1)) (.v 2) [(.a (.a (.v 0) (.a (.v 1) (.n 1))) (.n 1),.v 2)] rT hu) j j1 j2)
   ·rw [jEB (fun q=>hsz (n1.trans (q.trans n2.symm)))]
    exact EqAt.of_refs hll (RcAt.lists_lengths hl hl' (by simpa using hsz) (vBh (vBW ..) hu:A.units < cLine))
 ·rw [hd] at hc;cases hc
 ·refine nn fun gN=>?_
  obtain ⟨rfl,rfl⟩:=r.inv
  refine gN ?_
  clear gN
  exact absurd h1 (vBX _)
 ·obtain ⟨r1,r2⟩:=r.invC
  cases ys with
  | nil=>obtain ⟨rfl,rfl⟩:=r'.inv;exact absurd h2 (vBX _)
  | cons y ys =>
   obtain ⟨r1',r2'⟩:=r'.invC
   rw [jMG] at hu
   cases j with
   | zero=>exact ih1 y A s _ _ _ _ r1 r1' (zS hc).1 (lN [_,_,_,_] (.a (.a (.v 0) (.v 1)) (.n 1)) (.v 2) [(.a (.a (.v 0) (.v 3)) (.n 1),.v 2),(.v 1,.v 3)] rT hu (Nat.le_max_left ..))
   | succ j=>exact ih2 ys A s _ _ _ _ r2 r2' (zS hc).2 (lN [_,_,_,_] (.a (.a (.v 0) (.v 1)) (.n 1)) (.v 2) [(.a (.a (.v 0) (.v 3)) (.n 1),.v 2),(.v 1,.v 3)] rT hu (Nat.le_max_right ..)) j (vCG h1) (vCG h2)
section
variable {n:Nat}
def eqF (ds:List D):Tj:=jVY ds fun a b=>if D.cmpb a b && decide (a.dep <= 100) then okB (D.eqb a b) else none
def neF (ds:List D):Tj:=jVY ds fun a b=>if D.cmpb a b && decide (a.dep <= 100) then okB (!D.eqb a b) else none
theorem op_eq:OpN c hm n (vD .Eq) eqF:=by
 intro A l L m s vs ds fp r Q E hR hn nb hb rs hf hQ hE
 refine nn fun gN=>?_
 obtain ⟨a,b,rfl,hf⟩:=Xu hf
 obtain ⟨va,vb,fa,fb,ra,rb⟩:=rs.inv2
 refine gN ?_
 clear gN
 ··obtain ⟨hc,hf⟩:=ifs hf
   rw [vBR,vBZ] at hc
   obtain ⟨hc,hdep⟩:=hc
   have key:∀ k,k = D.eqb a b -> Q (.bool k) s:=fun k e=>e ▸ hQ _ _ _ _ _ ((vAy hf).symm) (St.refl hb) (.bool _) (fun _ h=>nomatch h) (Lv.nil _ _)
   have hcl:cLine = 9900:=rfl
   rcases qAA hc with ⟨x,y,rfl,rfl⟩ | ⟨x,y,rfl,rfl⟩ | ⟨xs,ys,rfl,rfl,hc'⟩
   ·obtain ⟨t,rfl⟩:=ra.int_inv;obtain ⟨u,rfl⟩:=rb.int_inv
    exact eq_int (key _ rfl)
   ·obtain ⟨t,rfl⟩:=ra.str_inv;obtain ⟨u,rfl⟩:=rb.str_inv
    exact PyProof.Rows.eq_str (key _ (jOI x y))
   ·refine nn fun gN=>?_
    obtain ⟨l,vs,g,hl,n1,h4⟩:=ra.list_inv
    obtain ⟨l',vs',g',hl',n2,k4⟩:=rb.list_inv
    refine gN ?_
    clear gN
    by_cases hsz:vs.size = vs'.size
    ·exact eq_listAt hl hl' hsz (vBh (vAz (vBW ..) hR.units) (by decide)) (fun j j1 j2=>eqAt_both.2 xs ys A.in1 s vs.toList vs'.toList _ _ h4 k4 hc' (by rw [jJT] at hdep;exact vBh (vCp (vCf (vAz (vBW ..) hR.units) _) (vBd hdep)) (by decide)) j j1 j2) (key _ (by rw [zM,jJO (by exact vCI (vAz (vAz (vBs n1.symm) (vBs hsz)) (vBs n2)) (vAz (vAz (vBs n2.symm) (vBs hsz.symm)) (vBs n1)):xs.length = ys.length),n1]))
    ·exact eq_list_lengthsAt hl hl' (by simpa using hsz) (vBh (vAz (vBW ..) hR.units) (by decide)) (key _ (by rw [zM,jEB (fun q=>hsz (n1.trans (q.trans n2.symm)):xs.length ≠ ys.length)]))
theorem jDG:OpN c hm n (vD .NotEq) neF:=by
 intro A l L m s vs ds fp r Q E hR hn nb hb rs hf hQ hE
 refine nn fun gN=>?_
 obtain ⟨a,b,rfl,hf⟩:=Xu hf
 obtain ⟨va,vb,fa,fb,ra,rb⟩:=rs.inv2
 refine gN ?_
 clear gN
 ··obtain ⟨hc,hf⟩:=ifs hf
   rw [vBR,vBZ] at hc
   obtain ⟨hc,hdep⟩:=hc
   have key:∀ k,k = (!D.eqb a b) -> Q (.bool k) s:=fun k e=>e ▸ hQ _ _ _ _ _ ((vAy hf).symm) (St.refl hb) (.bool _) (fun _ h=>nomatch h) (Lv.nil _ _)
   have hcl:cLine = 9900:=rfl
   rcases qAA hc with ⟨x,y,rfl,rfl⟩ | ⟨x,y,rfl,rfl⟩ | ⟨xs,ys,rfl,rfl,hc'⟩
   ·obtain ⟨t,rfl⟩:=ra.int_inv;obtain ⟨u,rfl⟩:=rb.int_inv
    exact ne_int (key _ rfl)
   ·obtain ⟨t,rfl⟩:=ra.str_inv;obtain ⟨u,rfl⟩:=rb.str_inv
    exact RcNeAt.str_str _ _ _ _ _ _ _ _ (key _ (congrArg _ (jOI x y)))
   ·refine nn fun gN=>?_
    obtain ⟨l,vs,g,hl,n1,h4⟩:=ra.list_inv
    obtain ⟨l',vs',g',hl',n2,k4⟩:=rb.list_inv
    refine gN ?_
    clear gN
    by_cases hsz:vs.size = vs'.size
    ·exact RcNeAt.lists hl hl' hsz (vBh (vAz (vBW ..) hR.units) (by decide)) (fun j j1 j2=>eqAt_both.2 xs ys A.in1 s vs.toList vs'.toList _ _ h4 k4 hc' (by rw [jJT] at hdep;exact vBh (vCp (vCf (vAz (vBW ..) hR.units) _) (vBd hdep)) (by decide)) j j1 j2) _ _ _ _ (key _ (by rw [zM,jJO (by exact vCI (vAz (vAz (vBs n1.symm) (vBs hsz)) (vBs n2)) (vAz (vAz (vBs n2.symm) (vBs hsz.symm)) (vBs n1)):xs.length = ys.length),n1]))
    ·exact RcNeAt.lists_lengths hl hl' (by simpa using hsz) (vBh (vAz (vBW ..) hR.units) (by decide)) _ _ _ _ (key _ (by rw [zM,jEB (fun q=>hsz (n1.trans (q.trans n2.symm)):xs.length ≠ ys.length)];rfl))
theorem ke {s:Shared} {Q:Ta} {v:Value} 
  (hQ:∀ v d lv fp' s',r = .ok (d,lv) -> St c L s s' -> Rp c.mg s'.heap v d fp' -> (∀ a ∈ fp',s.heap.get? a = none \/ a ∈ fp \/ Fz c a) -> Lv s.heap s'.heap lv fp' -> Q v s')
  (hr:r = .ok (d,2)) (st:St c L s s') (rp:Rp c.mg s'.heap v d []):Q v s':=hQ v d 2 [] s' hr st rp (fun _ h=>nomatch h) (Lv.nil _ _)
theorem qEI (hF:∀ ds r,F ds = some r -> ∃ a b,ds = [.int a,.int b])
  (h:∀ (A:Around) (s:Shared) (a b:Int) (t u:Tok) (r:R (D × Nat)) (Q E:Ta),F [.int a,.int b] = some r -> (∀ d,r = .ok (d,2) -> ∀ v k,Rp c.mg s.heap v d [] -> Q v { s with toks:=s.toks + k }) -> wpAny (model c.prog c.w) A (op [.int a t,.int b u]) Q E s):OpN c hm n op F:=by
 intro A l L m s vs ds fp r Q E hR hn nb hb rs hf hQ hE
 refine nn fun gN=>?_
 obtain ⟨a,b,rfl⟩:=hF _ _ hf
 obtain ⟨t,u,rfl,rfl⟩:=rs.ints2
 refine gN ?_
 clear gN
 exact h A s a b t u r Q E hf fun d e v k rp=>ke hQ e (St.tok hb k) rp
def i2 {β:Type} (ds:List D) (K:Int -> Int -> Option β):Option β:=jVY ds fun a b=>ofI a fun a=>ofI b fun b=>K a b
theorem jJA {β:Type} {K:Int -> Int -> Option β} {r:β} (h:i2 ds K = some r):∃ a b,ds = [.int a,.int b]:=by
 obtain ⟨a,b,rfl,h⟩:=Xu h
 obtain ⟨a,rfl,h⟩:=Qe h
 obtain ⟨b,rfl,-⟩:=Qe h
 exact ⟨a,b,rfl⟩
def jNL (ds:List D):Tj:=i2 ds fun a b=>okI (a - b)
theorem jS:OpN c hm n (jOY .Sub) jNL:=by
 refine qEI (fun _ _=>jJA) fun A s a b t u r Q E hf hQ=>?_
 ·exact sub_int (hQ _ ((vAy hf).symm) _ 1 (.int _ _))
noncomputable def jFE (a b:Int):Bool:=decide (a.natAbs < 2 ^ 64) || decide (b.natAbs < 2 ^ 64) || (decide (a.natAbs < 2 ^ 1000) && decide (b.natAbs < 2 ^ 1000))
theorem jEH {a:Int} (h:a.natAbs < 2 ^ k):Builtin.Int.intBits a <= k:=by
 unfold Builtin.Int.intBits
 split
 ·exact vBz _
 ·rename_i h0
  exact ((Nat.log2_lt (by simpa using h0:a.natAbs ≠ 0)).mpr h)
theorem jUB {a b:Int} (h:jFE a b = true):IntMulOk a b:=by
 simp only [jFE,vCD,vBR,vBZ] at h
 rcases h with (h | h) | ⟨h1,h2⟩
 ·exact IntMulOk.of_left (jEH h)
 ·exact IntMulOk.of_right (jEH h)
 ·refine IntMulOk.of_bits ?_ ?_
  ·exact vAz (jEH h1) (by decide)
  ·exact vAz (jEH h2) (by decide)
noncomputable def jTY {α:Type} (xs:List α) (k:Int):List α:=(List.replicate k.toNat xs).flatten
noncomputable def D.leaf:D -> Bool
 | .none | .bool _ | .int _ | .str _=>true
 | _=>false
theorem Rp.leaf_carried {v:Value} {f:List Addr} (r:Rp X h v d f) (hl:d.leaf = true):Carried v (D.py d) /\ f = []:=by
 have q:=r.inv
 cases d with
 | none=>obtain ⟨rfl,rfl⟩:=q;exact ⟨.none,rfl⟩
 | bool b=>obtain ⟨rfl,rfl⟩:=q;exact ⟨.bool b,rfl⟩
 | int i=>obtain ⟨t,rfl,rfl⟩:=q;exact ⟨.int i t,rfl⟩
 | str s=>obtain ⟨t,rfl,rfl⟩:=q;exact ⟨.str _ t,rfl⟩
 | _=>cases hl
theorem Rps.carried {xs:List D} {f:List Addr} (r:Rps X h vs xs f):xs.all D.leaf = true -> CarriedAll vs (D.pys xs) /\ f = [] :=
 r.ind (Ps:=fun vs xs f=>xs.all D.leaf = true -> CarriedAll vs (D.pys xs) /\ f = []) (fun _=>⟨.nil,rfl⟩) fun r _ ih hl=>by
  refine nn fun gN=>?_
  obtain ⟨h1,rfl⟩:=r.leaf_carried (XM hl).1
  obtain ⟨h2,rfl⟩:=ih (XM hl).2
  refine gN ?_
  exact ⟨.cons h1 h2,rfl⟩
def jBG (ds:List D):Tj:=jVY ds fun a b=>qAD a (fun a=>ofI b fun b=>if jFE a b then okI (a * b) else none)
 (fun s=>ofI b fun k=>if k < 2 ^ 60 /\ -(2 ^ 60) < k /\ s.length * k.toNat <= lim then some (.ok (.str (jTY s k),2)) else none)
 (fun xs=>ofI b fun k=>if (k < 2 ^ 60 /\ -(2 ^ 60) < k /\ xs.length * k.toNat <= lim) /\ xs.all D.leaf = true then some (.ok (.list (jTY xs k),0)) else none) (fun _=>none)
theorem qJM (s:List Nat) (k:Int):jBG [.str s,.int k] = if k < 2 ^ 60 /\ -(2 ^ 60) < k /\ s.length * k.toNat <= lim then some (.ok (.str (jTY s k),2)) else none:=rfl
theorem jYX (s:List Nat):∀ (k:Nat) (acc:Array Nat),(List.replicate k s.toArray).foldl (· ++ ·) acc = acc ++ ((List.replicate k s).flatten).toArray:=by
 intro k
 induction k with
 | zero =>
  intro acc
  simp
 | succ k ih =>
  intro acc
  rw [List.replicate_succ,List.foldl_cons,ih,List.replicate_succ];simp
theorem qEX (s:List Nat) (k:Int):Txt.mul (Str.mk s.toArray) k = Str.mk (jTY s k).toArray:=by
 unfold Txt.mul jTY
 split
 ·rename_i h1
  rw [Int.toNat_of_nonpos (Int.le_of_lt_add_one h1)];rfl
 ·split
  ·rename_i h1 h2
   simp only [vCD,vBc,vE] at h2
   rcases h2 with h2 | h2
   ·subst h2;simp
   ·have:s = []:=List.eq_nil_of_length_eq_zero h2
    subst this
    rw [(fun j=>by induction j with | zero=>rfl | succ j ih=>simp [List.replicate_succ,ih]:∀ j:Nat,(List.replicate j ([]:List Nat)).flatten = [])]
  ·rw [jYX];simp
theorem Rps.rep {xs:List D} (r:Rps X h vs xs []):∀ k:Nat,Rps X h (List.replicate k vs).flatten (List.replicate k xs).flatten []:=by
 intro k
 induction k with
 | zero =>
  exact .nil
 | succ k ih =>
  rw [List.replicate_succ,List.replicate_succ,List.flatten_cons,List.flatten_cons]
  exact Rps.append (f:=[]) (g:=[]) r (ih)
theorem qCB (h:jBG ds = some r):(∃ a b,ds = [.int a,.int b]) \/ (∃ x k,ds = [.str x,.int k]) \/ ∃ xs k,ds = [.list xs,.int k]:=by
 refine nn fun gN=>?_
 obtain ⟨a,b,e0,h⟩:=Xu h
 rcases vt h with ⟨x,e,h⟩ | ⟨x,e,h⟩ | ⟨x,e,h⟩ | ⟨x,e,h⟩
 ·obtain ⟨k,e',h⟩:=Qe h;exact gN <| .inl ⟨x,k,by rw [e0,e,e']⟩
 ·obtain ⟨k,e',h⟩:=Qe h;exact gN <| .inr (.inl ⟨x,k,by rw [e0,e,e']⟩)
 ·obtain ⟨k,e',h⟩:=Qe h;exact gN <| .inr (.inr ⟨x,k,by rw [e0,e,e']⟩)
 ·exact nos h
theorem Z5:OpN c hm n (jOY .Mult) jBG:=by
 intro A l L m s vs ds fp r Q E hR hn nb hb rs hf hQ hE
 rcases qCB hf with ⟨a,b,rfl⟩ | ⟨x,k,rfl⟩ | ⟨xs,k,rfl⟩
 ·refine nn fun gN=>?_
  obtain ⟨t,u,rfl,rfl⟩:=rs.ints2
  refine gN ?_
  ·obtain ⟨h1,hf⟩:=ifs hf
   exact mul_int (ke hQ ((vAy hf).symm) (St.tok hb 1) (.int _ _)) (jUB h1)
 ·refine nn fun gN=>?_
  obtain ⟨va,vb,fa,fb,ra,rb⟩:=rs.inv2
  obtain ⟨t0,rfl,rfl⟩:=ra.inv
  obtain ⟨u0,rfl,rfl⟩:=rb.inv
  ·obtain ⟨⟨h1,h2,h3⟩,hf⟩:=ifs hf
   unfold lim at h3
   refine gN ?_
   refine wpAny_with_toks hb.2 (SB.mul (n:=k) ⟨?_,fun h4 h5=>?_,fun h4 h5=>?_⟩ fun t' tk ht=>?_)
   ·simp only [Bool.or_eq_false_iff,decide_eq_false_iff_not];exact ⟨Int.not_lt.mpr (Int.le_trans (by decide) (Int.le_of_lt h2)),Int.not_le.mpr (Int.lt_trans h1 (by decide))⟩
   ·rw [vE]
    have:(2 ^ 63 - 1:Int) / k ≥ 10000000:=by
     refine (Int.le_ediv_iff_mul_le (Int.not_lt.mp h4)).mpr ?_
     have:(10000000:Int) * k <= 10000000 * 1152921504606846976:=Int.mul_le_mul_of_nonneg_left (Int.le_of_lt h1) (vBi _)
     have h6:x.length * k.toNat <= 10000000:=h3
     by_cases hx:x.length = 0
     ·simp [vE,hx] at h5
     ·exact Int.le_trans (Int.mul_le_mul_of_nonneg_left (Int.le_trans (Int.self_le_toNat k) (zL (vAz (Nat.le_mul_of_pos_left _ (Nat.pos_of_ne_zero hx):k.toNat <= x.length * k.toNat) h6))) (by decide)) (by decide)
    exact fun eq=>fZ (lZ [((x.length * k.toNat:Nat):Int),((x.length:Nat):Int),_] (.n 1) (.n 0) [(.v 0,.n 10000000),(.v 1,.v 0),(.n 10000000,.v 2),(.a (.v 2) (.n 1),.v 1)] rT (zL h3) (zL (Nat.le_mul_of_pos_right _ (nT (lZ [((k.toNat:Nat):Int),_] (.a (.n 0) (.n 1)) (.v 0) [(.n 1,.v 1),(.v 1,.v 0)] rT (Int.not_lt.mp h4) (Int.self_le_toNat _))):x.length <= x.length * k.toNat)) this eq)
   ·rw [vE];unfold Builtin.Str.tooLong sizeLine;simp;exact vAz h3 (by decide)
   ·rw [qEX]
    exact ke hQ ((vAy hf).symm) (St.toks hb _ ht) (.str _ _)
 ·refine nn fun gN=>?_
  obtain ⟨va,vb,fa,fb,ra,rb⟩:=rs.inv2
  obtain ⟨u0,rfl,rfl⟩:=rb.inv
  ·obtain ⟨⟨⟨h1,h2,h3⟩,h4⟩,hf⟩:=ifs hf
   obtain ⟨x,vx,f,hx,rx⟩:=QR ra
   obtain ⟨hca,hf0⟩:=rx.carried h4
   subst hf0
   refine gN ?_
   refine mul_list_is (vs:=vx.toList) (qDU hn) qDT hx hca (Int.le_trans (by decide) (Int.le_of_lt h2)) (Int.lt_trans h1 (by decide)) (by rw [rx.length];unfold lim at h3;exact vAz h3 (by decide):vx.toList.length * k.toNat <= 2 ^ 24) (fun h' F N hfr hl hc'=>?_)
   refine nn fun gN=>?_
   obtain ⟨o,ho,hcl,k',hd⟩:=hl
   refine gN ?_
   refine hQ _ _ _ _ _ ((vAy hf).symm) (jCT (c:=c) (extra:=[]) hn nb hb F N hb.2) (.list ho hcl hd (by simpa [jTY] using ((jCT (c:=c) (extra:=[]) hn nb hb F N hb.2).kp.rps hn rx).rep k.toNat)) ?_ (Lv.zero _ _)
   intro q hq
   rcases vCu.mp hq with hqq | hq
   ·rw [hqq];exact .inl (Jq _)
   ·cases hq
def zi (ds:List D):Tj:=i2 ds fun a b=>if b ≠ 0 /\ b.natAbs < 1073741824 then okI (a.fdiv b) else none
theorem XR:OpN c hm n (jOY .FloorDiv) zi:=by
 refine qEI (fun _ _=>jJA) fun A s a b t u r Q E hf hQ=>?_
 ·by_cases h1:b ≠ 0 /\ b.natAbs < 1073741824
  ·rw [show zi [.int a,.int b] = okI (a.fdiv b) from if_pos h1] at hf
   exact floordiv_int h1.1 (hQ _ ((vAy hf).symm) _ 1 (.int _ _)) (.inl (PyProof.noPylong_small h1.2))
  ·rw [show zi [.int a,.int b] = none from if_neg h1] at hf
   exact nos hf
def jM (ds:List D):Tj:=i2 ds fun a b=>if b ≠ 0 then okI (a.fmod b) else none
theorem Ju:OpN c hm n (jOY .Mod) jM:=by
 refine qEI (fun _ _=>jJA) fun A s a b t u r Q E hf hQ=>?_
 ·by_cases h1:b ≠ 0
  ·rw [show jM [.int a,.int b] = okI (a.fmod b) from if_pos h1] at hf
   exact mod_int' h1 (hQ _ ((vAy hf).symm) _ 1 (.int _ _))
  ·rw [show jM [.int a,.int b] = none from if_neg h1] at hf
   exact nos hf
def jOU (ds:List D):Tj:=i2 ds fun a b=>if 0 <= b /\ b <= 1000 /\ a.natAbs < 2 ^ 1000 then okI (a ^ b.toNat) else none
theorem qEC (a b:Int):jOU [.int a,.int b] = if 0 <= b /\ b <= 1000 /\ a.natAbs < 2 ^ 1000 then okI (a ^ b.toNat) else none:=rfl
theorem jAQ:OpN c hm n (jOY .Pow) jOU:=by
 refine qEI (fun _ _=>jJA) fun A s a b t u r Q E hf hQ=>?_
 ·by_cases h1:0 <= b /\ b <= 1000 /\ a.natAbs < 2 ^ 1000
  ·rw [show jOU [.int a,.int b] = okI (a ^ b.toNat) from if_pos h1] at hf
   refine pow_int h1.1 ?_ (hQ _ ((vAy hf).symm) _ 1 (.int _ _))
   exact Int.le_of_lt (Int.lt_of_le_of_lt (Int.mul_le_mul (Int.ofNat_le.mpr (jEH h1.2.2)) (lZ [_] (.v 0) (.n 1000) [(.v 0,.n 1000)] rT h1.2.1) h1.1 (vBi _):(Builtin.Int.intBits a:Int) * b <= 1000 * 1000) (by decide))
  ·rw [show jOU [.int a,.int b] = none from if_neg h1] at hf
   exact nos hf
def jLI:Td
 | [.int a]=>okI (-a)
 | _=>none
theorem jT:OpN c hm n (qMA .USub) jLI:=by
 intro A l L m s vs ds fp r Q E hR hn nb hb rs hf hQ hE
 unfold jLI at hf
 split at hf
 ·refine nn fun gN=>?_
  obtain ⟨va,rfl,ra⟩:=rs.inv1
  obtain ⟨t0,rfl,rfl⟩:=ra.inv
  refine gN ?_
  exact PyProof.Rows.neg_int (ke hQ ((vAy hf).symm) (St.tok hb 1) (.int _ _))
 ·exact nos hf
def qFT:Td
 | [a]=>(Qp a).bind fun b=>okB (!b)
 | _=>none
theorem jSI:OpN c hm n (qMA .Not) qFT:=by
 intro A l L m s vs ds fp r Q E hR hn nb hb rs hf hQ hE
 unfold qFT at hf
 split at hf
 ·refine nn fun gN=>?_
  obtain ⟨va,rfl,ra⟩:=rs.inv1
  obtain ⟨b,h1,h2⟩:=vBG.mp hf
  obtain rfl:=vAy h2
  refine gN ?_
  clear gN
  exact not_of (Qs hb ra h1 fun s' st=>ke hQ rfl st (.bool _))
 ·exact nos hf
def ltF:Td
 | [.int a,.int b]=>okB (decide (a < b))
 | _=>none
theorem qj:OpN c hm n (vD .Lt) ltF:=by
 refine qEI (fun ds r h=>?_) fun A s a b t u r Q E hf hQ=>?_
 ·unfold ltF at h
  split at h
  ·exact ⟨_,_,rfl⟩
  ·exact nos h
 ·exact lt_int (hQ _ ((vAy hf).symm) _ 0 (.bool _))
def leF:Td
 | [.int a,.int b]=>okB (decide (a <= b))
 | _=>none
theorem qBS:OpN c hm n (vD .LtE) leF:=by
 refine qEI (fun ds r h=>?_) fun A s a b t u r Q E hf hQ=>?_
 ·unfold leF at h
  split at h
  ·exact ⟨_,_,rfl⟩
  ·exact nos h
 ·exact PyProof.Rows.le_int (hQ _ ((vAy hf).symm) _ 0 (.bool _))
def gtF:Td
 | [.int a,.int b]=>okB (decide (b < a))
 | _=>none
theorem xp:OpN c hm n (vD .Gt) gtF:=by
 refine qEI (fun ds r h=>?_) fun A s a b t u r Q E hf hQ=>?_
 ·unfold gtF at h
  split at h
  ·exact ⟨_,_,rfl⟩
  ·exact nos h
 ·exact gt_int (hQ _ ((vAy hf).symm) _ 0 (.bool _))
def geF:Td
 | [.int a,.int b]=>okB (decide (b <= a))
 | _=>none
theorem jXS:OpN c hm n (vD .GtE) geF:=by
 refine qEI (fun ds r h=>?_) fun A s a b t u r Q E hf hQ=>?_
 ·unfold geF at h
  split at h
  ·exact ⟨_,_,rfl⟩
  ·exact nos h
 ·exact PyProof.Rows.ge_int (hQ _ ((vAy hf).symm) _ 0 (.bool _))
noncomputable def isN:D -> Bool
 | .none=>true
 | _=>false
def isD (a b:D):Option Bool:=if isN b then some (isN a) else none
def isF (ds:List D):Tj:=jVY ds fun a b=>(isD a b).bind okB
def qJW (ds:List D):Tj:=jVY ds fun a b=>(isD a b).bind fun k=>okB (!k)
theorem qEM {va vb:Value} {a b:D} {fa fb:List Addr} {k:Bool} (ra:Rp c.mg h va a fa) (rb:Rp c.mg h vb b fb) (hk:isD a b = some k):plainIs va vb = true /\ (va == vb) = k:=by
 have qa:=ra.inv
 cases b with
 | none =>
  obtain rfl:=vAy hk
  obtain ⟨rfl,rfl⟩:=rb.inv
  cases a with
  | none=>obtain ⟨rfl,rfl⟩:=qa;exact ⟨rfl,rfl⟩
  | bool _=>obtain ⟨rfl,rfl⟩:=qa;exact ⟨rfl,rfl⟩
  | int _=>obtain ⟨_,rfl,rfl⟩:=qa;exact ⟨rfl,rfl⟩
  | str _=>obtain ⟨_,rfl,rfl⟩:=qa;exact ⟨rfl,rfl⟩
  | list _=>obtain ⟨_,_,_,_⟩:=qa;exact ⟨rfl,rfl⟩
  | tup _=>obtain ⟨_,_,_,_⟩:=qa;exact ⟨rfl,rfl⟩
  | exc _=>obtain ⟨_,_,_,_⟩:=qa;exact ⟨rfl,rfl⟩
  | ob _=>obtain ⟨rfl,rfl⟩:=qa;exact ⟨rfl,rfl⟩
 | _=>exact nos hk
theorem qJF:OpN c hm n (vD .Is) isF:=by
 intro A l L m s vs ds fp r Q E hR hn nb hb rs hf hQ hE
 refine nn fun gN=>?_
 obtain ⟨a,b,rfl,hf⟩:=Xu hf
 ·skip
  obtain ⟨va,vb,fa,fb,ra,rb⟩:=rs.inv2
  obtain ⟨k,h1,h2⟩:=vBG.mp hf
  obtain rfl:=vAy h2
  obtain ⟨h3,h4⟩:=qEM ra rb h1
  refine gN ?_
  clear gN
  exact wpAny_is_plain h3 (by rw [h4];exact ke hQ rfl (St.refl hb) (.bool _))
theorem qEG:OpN c hm n (vD .IsNot) qJW:=by
 intro A l L m s vs ds fp r Q E hR hn nb hb rs hf hQ hE
 refine nn fun gN=>?_
 obtain ⟨a,b,rfl,hf⟩:=Xu hf
 ·skip
  obtain ⟨va,vb,fa,fb,ra,rb⟩:=rs.inv2
  obtain ⟨k,h1,h2⟩:=vBG.mp hf
  obtain rfl:=vAy h2
  obtain ⟨h3,h4⟩:=qEM ra rb h1
  refine gN ?_
  clear gN
  exact wpAny_isNot_plain h3 (by rw [h4];exact ke hQ rfl (St.refl hb) (.bool _))
noncomputable def qCK (k:Int):List D -> Option Bool
 | []=>some false
 | .int i :: xs=>(qCK k xs).map fun b=>(i == k) || b
 | _=>none
noncomputable def qNS {β:Type} (s:List Nat) (K:Nat -> Option β):Option β:=match s with
 | [ch]=>K ch
 | _=>none
theorem jXT {β:Type} {K:Nat -> Option β} {r:β}:∀ {s:List Nat},qNS s K = some r -> ∃ ch,s = [ch] /\ K ch = some r:=by
 intro s h
 cases s with
 | nil=>exact nos h
 | cons a l=>cases l with | nil=>exact ⟨a,rfl,h⟩ | cons=>exact nos h
def inD (a b:D):Option Bool:=qAD a (fun k=>ofL b fun xs=>qCK k xs) (fun s=>qNS s fun ch=>ofS b fun x=>some (x.contains ch)) (fun _=>none) (fun _=>none)
def inF (ds:List D):Tj:=jVY ds fun a b=>(inD a b).bind okB
def qLG (ds:List D):Tj:=jVY ds fun a b=>(inD a b).bind fun k=>okB (!k)
theorem jSO {s:Shared} {k:Int}:∀ {xs:List D} {vs:List Value} {f:List Addr} {b:Bool},Rps c.mg s.heap vs xs f -> qCK k xs = some b -> 
  ∃ e:Value -> Bool,(∀ y ∈ vs,EqAt A s y (.int k t) (e y)) /\ vs.any e = b:=by
 intro xs
 refine fun {vs f b} rs hi=>⟨fun y=>match y with | .int i _=>i == k | _=>false,?_⟩
 induction xs generalizing vs f b with
 | nil=>obtain ⟨rfl,rfl⟩:=rs.inv;obtain rfl:=vAy hi;exact ⟨fun _ h=>(nomatch h),rfl⟩
 | cons x xs ih =>
  obtain ⟨r,rs'⟩:=rs.invC
  cases x with
  | int i =>
   refine nn fun gN=>?_
   obtain ⟨u,rfl,rfl⟩:=r.inv
   obtain ⟨b',h1,h2⟩:=vBD.mp hi
   obtain ⟨h3,h4⟩:=ih rs' h1
   refine gN ?_
   clear gN
   refine ⟨fun y hy=>?_,?_⟩
   ·rcases vCu.mp hy with hqq | hy
    ·rw [hqq];exact EqAt.int_int i u k t
    ·exact h3 y hy
   ·rw [List.any_cons,h4,<- h2]
  | _=>exact nos hi
theorem jYR (x:List Nat) (ch:Nat):Txt.contains (Str.mk x.toArray) (Str.mk [ch].toArray) = x.contains ch:=by
 unfold Txt.contains
 rw [(rfl:(Str.mk [ch].toArray) = ⟨#[ch]⟩),StrLaws.found_one]
 simp
theorem jYS {a b:D} {k:Bool} (h:inD a b = some k):(∃ ch x,a = .str [ch] /\ b = .str x /\ k = x.contains ch) \/ (∃ i xs,a = .int i /\ b = .list xs /\ qCK i xs = some k):=by
 refine nn fun gN=>?_
 rcases vt h with ⟨x,e,h⟩ | ⟨x,e,h⟩ | ⟨x,e,h⟩ | ⟨x,e,h⟩
 ·obtain ⟨xs,e',h⟩:=Zh h;exact gN <| .inr ⟨_,_,e,e',h⟩
 ·obtain ⟨ch,e1,h⟩:=jXT h
  obtain ⟨y,e',h⟩:=jIN h;exact gN <| .inl ⟨ch,y,by rw [e,e1],e',(vAy h).symm⟩
 ·exact nos h
 ·exact nos h
theorem qJG:OpN c hm n (vD .In) inF:=by
 intro A l L m s vs ds fp r Q E hR hn nb hb rs hf hQ hE
 refine nn fun gN=>?_
 obtain ⟨a,b,rfl,hf⟩:=Xu hf
 ·skip
  obtain ⟨va,vb,fa,fb,ra,rb⟩:=rs.inv2
  obtain ⟨k,h1,h2⟩:=vBG.mp hf
  obtain rfl:=vAy h2
  have key:Q (.bool k) s:=ke hQ rfl (St.refl hb) (.bool _)
  refine gN ?_
  clear gN
  rcases jYS h1 with ⟨ch,x,rfl,rfl,rfl⟩ | ⟨i,xs,rfl,rfl,h1⟩
  ·refine nn fun gN=>?_
   obtain ⟨t,rfl,rfl⟩:=ra.inv
   obtain ⟨u,rfl,rfl⟩:=rb.inv
   refine gN ?_
   clear gN
   exact SB.contains (by rw [jYR];exact key)
  ·refine nn fun gN=>?_
   obtain ⟨t,rfl,rfl⟩:=ra.inv
   obtain ⟨x,vx,f,hx,rx⟩:=QR rb
   obtain ⟨e,h3,h4⟩:=jSO (A:=A.in1) (t:=t) rx h1
   refine gN ?_
   clear gN
   exact in_listAt e hx (fun y hy=>h3 y (Array.mem_toList_iff.mpr hy)) (by rw [<- Array.any_toList,h4];exact key)
theorem qEE:OpN c hm n (vD .NotIn) qLG:=by
 intro A l L m s vs ds fp r Q E hR hn nb hb rs hf hQ hE
 refine nn fun gN=>?_
 obtain ⟨a,b,rfl,hf⟩:=Xu hf
 ·skip
  obtain ⟨va,vb,fa,fb,ra,rb⟩:=rs.inv2
  obtain ⟨k,h1,h2⟩:=vBG.mp hf
  obtain rfl:=vAy h2
  have key:Q (.bool (!k)) s:=ke hQ rfl (St.refl hb) (.bool _)
  refine gN ?_
  clear gN
  rcases jYS h1 with ⟨ch,x,rfl,rfl,rfl⟩ | ⟨i,xs,rfl,rfl,h1⟩
  ·refine nn fun gN=>?_
   obtain ⟨t,rfl,rfl⟩:=ra.inv
   obtain ⟨u,rfl,rfl⟩:=rb.inv
   refine gN ?_
   clear gN
   exact SB.notContains (by rw [jYR];exact key)
  ·refine nn fun gN=>?_
   obtain ⟨t,rfl,rfl⟩:=ra.inv
   obtain ⟨x,vx,f,hx,rx⟩:=QR rb
   obtain ⟨e,h3,h4⟩:=jSO (A:=A.in1) (t:=t) rx h1
   refine gN ?_
   clear gN
   exact notIn_listAt e hx (fun y hy=>h3 y (Array.mem_toList_iff.mpr hy)) (by rw [<- Array.any_toList,h4];exact key)
end
section
variable {n:Nat}
def jSQ (k:Nat) (i:Int):Option Nat :=
 if k <= big then (if 0 <= i then (if i < k then some i.toNat else none) else if -(k:Int) <= i then some (i + k).toNat else none) else none
theorem jPK {i:Int} (h:jSQ k i = some j):seqIndex? i k = some j /\ -(2 ^ 63) <= i /\ i < 2 ^ 63 /\ j < k:=by
 obtain ⟨hk,h⟩:=ifs h
 by_cases h0:0 <= i
 ·rw [if_pos h0] at h
  obtain ⟨h1,h⟩:=ifs h
  rw [<- vAy h]
  refine ⟨?_,Int.le_trans (by decide) h0,Int.lt_trans h1 (Int.lt_of_le_of_lt (zL hk:(k:Int) <= 1000000000) (by decide)),nT (Int.lt_of_le_of_lt (zP h0) h1)⟩
  unfold seqIndex?
  rw [if_neg (Int.not_lt.mpr h0),if_pos (by simp;exact ⟨h0,h1⟩)]
 ·rw [if_neg h0] at h
  obtain ⟨h1,h⟩:=ifs h
  rw [<- vAy h]
  have h0:=Int.not_le.mp h0
  refine ⟨?_,Int.le_trans (Int.le_trans (by decide) (Int.neg_le_neg (zL hk:(k:Int) <= 1000000000))) h1,Int.lt_trans h0 (by decide),nT (Int.lt_of_le_of_lt (zP (lZ [_,_] (.n 0) (.a (.v 0) (.v 1)) [(.g (.v 1),.v 0)] rT h1:0 <= i + k)) (lZ [_,_] (.a (.a (.v 0) (.v 1)) (.n 1)) (.v 1) [(.a (.v 0) (.n 1),.n 0)] rT h0:i + k < k))⟩
  unfold seqIndex?
  rw [if_pos h0,if_pos (by simp;exact ⟨(lZ [_,_] (.n 0) (.a (.v 0) (.v 1)) [(.g (.v 1),.v 0)] rT h1:0 <= i + k),(lZ [_,_] (.a (.a (.v 0) (.v 1)) (.n 1)) (.v 1) [(.a (.v 0) (.n 1),.n 0)] rT h0:i + k < k)⟩)]
def JL:Td
 | [.list xs,.int i]=>(jSQ xs.length i).bind fun j=>xs[j]?.map fun d=>.ok (d,0)
 | [.tup xs,.int i]=>(jSQ xs.length i).bind fun j=>xs[j]?.map fun d=>.ok (d,0)
 | [.str s,.int i]=>(jSQ s.length i).bind fun j=>s[j]?.map fun ch=>.ok (.str [ch],2)
 | _=>none
def jTI (sl:Expr):Prop:=∀ o i,subscripted sl false o i = operate [o,i] (getItem o i)
inductive ItemI (a b:D) (r:R (D × Nat)):Prop
 | lst (xs:List D) (i:Int) (j:Nat) (d:D) (h1:a = .list xs) (h2:b = .int i) (h3:jSQ xs.length i = some j) (h4:xs[j]? = some d) (h5:r = .ok (d,0)):ItemI a b r
 | tup (xs:List D) (i:Int) (j:Nat) (d:D) (h1:a = .tup xs) (h2:b = .int i) (h3:jSQ xs.length i = some j) (h4:xs[j]? = some d) (h5:r = .ok (d,0)):ItemI a b r
 | str (xs:List Nat) (i:Int) (j ch:Nat) (h1:a = .str xs) (h2:b = .int i) (h3:jSQ xs.length i = some j) (h4:xs[j]? = some ch) (h5:r = .ok (.str [ch],2)):ItemI a b r
theorem qAF {α β:Type} {o:Option Nat} {f:Nat -> Option α} {g:α -> β} {r:β} (h:(o.bind fun j=>(f j).map g) = some r):∃ j d,o = some j /\ f j = some d /\ r = g d:=by
 refine nn fun gN=>?_
 obtain ⟨j,h1,h2⟩:=vBG.mp h
 obtain ⟨d,h3,h4⟩:=vBD.mp h2
 refine gN ?_
 clear gN
 exact ⟨j,d,h1,h3,h4.symm⟩
theorem jYN {a b:D} (h:JL [a,b] = some r):ItemI a b r:=by
 cases a with
 | list xs=>cases b with
  | int i=>obtain ⟨j,d,h1,h3,e⟩:=qAF h;exact .lst xs i j d rfl rfl h1 h3 e
  | _=>exact nos h
 | tup xs=>cases b with
  | int i=>obtain ⟨j,d,h1,h3,e⟩:=qAF h;exact .tup xs i j d rfl rfl h1 h3 e
  | _=>exact nos h
 | str xs=>cases b with
  | int i=>obtain ⟨j,d,h1,h3,e⟩:=qAF h;exact .str xs i j d rfl rfl h1 h3 e
  | _=>exact nos h
 | _=>exact nos h
theorem jWR {i:Int} (h:seqIndex? i k = some j):(i < 0 /\ 0 <= i + k /\ j = (i + k).toNat) \/ (0 <= i /\ j = i.toNat):=by
 unfold seqIndex? at h
 by_cases hi:i < 0
 ·rw [if_pos hi] at h
  dsimp only at h
  split at h
  ·rename_i hc
   simp only [vBR,vBZ] at hc
   obtain rfl:=vAy h
   exact .inl ⟨hi,by exact hc.1,rfl⟩
  ·exact nos h
 ·rw [if_neg hi] at h
  dsimp only at h
  split at h
  ·obtain rfl:=vAy h;exact .inr ⟨by exact Int.not_lt.mp hi,rfl⟩
  ·exact nos h
theorem jWH {value slice:Expr} {s:Shared} {vo vi:Value} {a b:D} {fa fb:List Addr} {Q:Ta} (hb:Gd c s) (hsl:jTI slice)
  (ra:Rp c.mg s.heap vo a fa) (rb:Rp c.mg s.heap vi b fb) (hf:JL [a,b] = some r)
  (hQ:∀ v d lv fp' s',r = .ok (d,lv) -> St c L s s' -> Rp c.mg s'.heap v d fp' -> (∀ x ∈ fp',s.heap.get? x = none \/ x ∈ fa) -> Lv s.heap s'.heap lv fp' -> Q v s') :
  wpAny (model c.prog c.w) A (subscriptTail value slice vo vi) Q E s:=by
 rcases jYN hf with ⟨xs,i,j,d,rfl,rfl,h1,h3,rfl⟩ | ⟨xs,i,j,d,rfl,rfl,h1,h3,rfl⟩ | ⟨xs,i,j,ch,rfl,rfl,h1,h3,rfl⟩
 ·refine nn fun gN=>?_
  clear hf
  obtain ⟨t,rfl,rfl⟩:=rb.inv
  obtain ⟨h4,h5,h6,h7⟩:=jPK h1
  obtain ⟨x,vx,f,hx,rx⟩:=QR ra
  obtain ⟨v,g,h8,h9,h10⟩:=rx.get h3
  have hlen:vx.size = xs.length:=by simpa using rx.length
  have hv:vx[j]? = some v:=by simpa using h8
  have hq:=hQ v d 0 g s rfl (St.refl hb) h9 (fun y hy=>.inr (vBC _ (h10 y hy))) (Lv.zero _ _)
  refine gN ?_
  clear gN
  refine tail_any hx.typeIs slot_list_getitem.lookup ?_ (hsl _ _)
  rcases jWR h4 with ⟨hi,h11,e⟩ | ⟨hi,e⟩
  ·exact wpAny_getItem_list_neg hx hi (lZ [((vx.size:Nat):Int),_,((xs.length:Nat):Int)] (.g (.v 0)) (.v 1) [(.v 2,.v 0),(.n 0,.a (.v 1) (.v 2))] rT (zL (vBs hlen.symm)) h11) h5 (by rw [hlen,<- e];exact hv) hq
  ·exact wpAny_getItem_list hx hi h6 (e ▸ hv) hq
 ·refine nn fun gN=>?_
  clear hf
  obtain ⟨t,rfl,rfl⟩:=rb.inv
  obtain ⟨g1,g2,g3,g4⟩:=ra.inv
  obtain ⟨h4,h5,h6,h7⟩:=jPK h1
  obtain ⟨v,g,h8,h9,h10⟩:=g4.get h3
  have hlen:=g4.length
  rw [vCN] at hlen
  refine gN ?_
  clear gN
  refine tail_any ⟨_,g1,g2⟩ PyProof.Rows.slot_tuple_getitem.lookup ?_ (hsl _ _)
  refine PyProof.Rows.getItem_tuple (j:=j) ⟨_,g1,g2,_,g3⟩ h5 h6 (by rw [hlen];exact h4) (by simpa using h8) ?_
  exact hQ v d 0 g s rfl (St.refl hb) h9 (fun y hy=>.inr (h10 y hy)) (Lv.zero _ _)
 ·refine nn fun gN=>?_
  clear hf
  obtain ⟨u,rfl,rfl⟩:=rb.inv
  obtain ⟨t,rfl,rfl⟩:=ra.inv
  obtain ⟨h4,h5,h6,h7⟩:=jPK h1
  have hch:Txt.charAt (Str.mk xs.toArray) i = some ch:=by
   unfold Txt.charAt
   rw [vE,h4]
   simpa using h3
  refine gN ?_
  clear gN
  refine tail_any (typeIs_str _ _ _) F.slot_str_getitem.lookup (SB.getItem ?_ (by rw [hch];rfl) ?_) (hsl _ _)
  ·unfold fitsSsize;simp;exact ⟨h5,h6⟩
  ·unfold Txt.item
   rw [hch]
   exact hQ _ (.str [ch]) 2 [] _ rfl (St.tok hb 1) (Rp.str [ch] _) (fun _ h=>nomatch h) (Lv.nil _ _)
theorem JG {g:Tg} (h1:Den c hm n sc nm e1z o1 f) (h2:Den c hm n sc nm e2z o2 g) (hsl:autoParam (jTI e2z) yN) :
  Den c hm n sc nm (.Subscript e1z e2z pos) (o1 ++ o2) (fun Z=>JR (f Z) fun a=>JR (g Z) fun b=>JL [a.1,b.1]):=by
 intro A l env Z vf s r Q E hsc hR hRd hf hQ hE
 obtain ⟨m,hn⟩:=hRd.ns
 refine Subscript_ (h1.run hsc hR hRd hf (fun a la _ hf va fa s1z st1z ra ta lva hR1 hRd1=>?_) hE)
 obtain ⟨m1z,hn1z⟩:=hRd1.ns
 refine h2.run hsc hR1 hRd1 hf (fun b lb _ hf vb fb s2z st2z rb tb lvb hR2z hRd2z=>?_) (fun x k s' e fl=>hE x k s' e (fl.back st1z hn))
 refine jWH (L:=env.locals) hRd2z.bs hsl (st2z.kp.rp hn1z ra) rb hf fun v d lv fp s3z e st3z rp tr lvl=>?_
 have st:=(st1z.trans st2z)
 refine hQ v d lv fp s3z e (st.trans st3z) rp (fun x hx=>?_) (lvl.back fun x hx=>st.kp.gone hn hx)
 rcases tr x hx with h | h
 ·exact .inl (st.kp.gone hn h)
 ·exact ta.left x h
def DenO (c:Cx) (hm:Bool) (n:Nat) (sc:Scope) (nm:List Str) (e:Option Expr) (f:G -> Option (R (Option Int))):Prop :=
 ∀ (A:Around) (l:List Env) (env:Env) (Z:G) (vf:Tb) (s:Shared) (r:R (Option Int)) (Q:Ta) (E:Ta),
  env.scope = sc -> Room c hm n A l s.heap -> Rd c env nm Z vf s -> f Z = some r -> 
  (∀ v i s',r = .ok i -> St c env.locals s s' -> IsPart v i -> Q v s') -> 
  (∀ x k s',r = .exc k -> Fly c env.locals l s x k s' -> E x s') -> 
  wpAny (model c.prog c.w) A (evalPart e env) Q E s
theorem QX:DenO c hm n sc nm none (fun _=>some (.ok none)):=by
 intro A l env Z vf s r Q E hsc hR hRd hf hQ hE
 exact vBM (hQ _ _ _ ((vAy hf).symm) (St.refl hRd.bs) .none)
noncomputable def Xx:D × Nat -> Option (R (Option Int))
 | (.int i,_)=>some (.ok (some i))
 | _=>none
theorem J0 {o:List Nat} (h:Den c hm n sc nm e o f):DenO c hm n sc nm (some e) (fun Z=>JR (f Z) Xx):=by
 intro A l env Z vf s r Q E hsc hR hRd hf hQ hE
 refine h.run hsc hR hRd hf (fun a la _ hf va fa s1z st1z ra ta lva hR1 hRd1=>?_) hE
 unfold Xx at hf
 split at hf
 ·rename_i e
  cases e
  obtain ⟨t,rfl,rfl⟩:=ra.inv
  exact hQ _ _ _ ((vAy hf).symm) st1z (.int _ _)
 ·exact nos hf
theorem DenO.run {β:Type} {e:Option Expr} {f:G -> Option (R (Option Int))} (hd:DenO c hm n sc nm e f) {g:Option Int -> Option (R β)} {r:R β}
  {s:Shared} {Q:Ta} 
  (hsc:env.scope = sc) (hR:Room c hm n A l s.heap) (hRd:Rd c env nm Z vf s) (hx:JR (f Z) g = some r)
  (hok:∀ i,f Z = some (.ok i) -> g i = some r -> ∀ v s',St c env.locals s s' -> IsPart v i -> Room c hm n A l s'.heap -> Rd c env nm Z vf s' -> Q v s')
  (hexc:∀ x k s',r = .exc k -> Fly c env.locals l s x k s' -> E x s'):wpAny (model c.prog c.w) A (evalPart e env) Q E s:=by
 obtain ⟨m,hn⟩:=hRd.ns
 rcases J6 hx with ⟨b,h1,h2⟩ | ⟨k,h1,rfl⟩
 ·exact hd A l env Z vf s _ Q E hsc hR hRd h1 (fun v i s' e st hp=>by cases e;exact hok b h1 h2 v s' st hp (hR.keep st.kp hn) (hRd.keep st)) fun x k s' e=>rno e
 ·exact hd A l env Z vf s _ Q E hsc hR hRd h1 (fun v i s' e=>by cases e) fun x k' s' e fl=>by cases e;exact hexc x k s' rfl fl
noncomputable def Jf {α:Type} (xs:List α) (lo hi:Option Int):List α :=
 (xs.drop (lo.elim 0 (clipAt xs.length))).take (hi.elim xs.length (clipAt xs.length) - lo.elim 0 (clipAt xs.length))
def jAK (lo hi:Option Int):D -> Tj
 | .list xs=>if xs.length <= lim then some (.ok (.list (Jf xs lo hi),vg (Jf xs lo hi))) else none
 | _=>none
theorem jTU {a:D} (h:jAK lo hi a = some r):∃ xs,xs.length <= lim /\ a = .list xs /\ r = .ok (.list (Jf xs lo hi),vg (Jf xs lo hi)):=by
 cases a <;> first | exact nos h | skip
 obtain ⟨h1,h2⟩:=ifs h
 exact ⟨_,h1,rfl,(vAy h2).symm⟩
theorem QV {lo hi:Option Expr} {p:Pos} {g k:G -> Option (R (Option Int))} (h1:Den c hm n sc nm e1z o1 f) (h2:DenO c hm n sc nm lo g) (h3:DenO c hm n sc nm hi k) :
  Den c hm n sc nm (.Subscript e1z (.Slice lo hi none p) pos) o1 (fun Z=>JR (f Z) fun a=>JR (g Z) fun x=>JR (k Z) fun y=>jAK x y a.1):=by
 intro A l env Z vf s r Q E hsc hR hRd hf hQ hE
 obtain ⟨m,hn⟩:=hRd.ns
 refine Subscript_ (h1.run hsc hR hRd hf (fun a la _ hf va fa s1z st1z ra ta lva hR1 hRd1=>?_) hE)
 obtain ⟨m1z,hn1z⟩:=hRd1.ns
 refine wpAny_Slice (h2.run hsc hR1 hRd1 hf (fun x _ hf vx s2z st2z px hR2z hRd2z=>?_) (fun x k s' e fl=>hE x k s' e (fl.back st1z hn)))
 obtain ⟨m2z,hn2z⟩:=hRd2z.ns
 refine h3.run hsc hR2z hRd2z hf (fun y _ hf vy s3z st3z py hR3z hRd3z=>?_) (fun x k s' e fl=>hE x k s' e (fl.back (st1z.trans st2z) hn))
 have st:=(st1z.trans st2z).trans st3z
 refine vBM (a:=Value.none) ?_
 obtain ⟨xs,hlen,hae,rfl⟩:=jTU hf
 subst hae
 ·skip
  ·skip
   refine nn fun gN=>?_
   obtain ⟨b,vb,fb,hx,rx⟩:=QR (st3z.kp.rp hn2z (st2z.kp.rp hn1z ra))
   have hp:=St.push (c:=c) (L:=env.locals) (s:=s3z) hRd3z.bs { cls:=.type "slice",data:=.fields #[vx,vy,.none] }
   refine gN ?_
   refine tail_any (ops:=_) (hx.push _:(s3z.heap.push { cls:=.type "slice",data:=.fields #[vx,vy,.none] }).IsList b vb).typeIs slot_list_getitem.lookup ?_ rfl
   refine wpAny_getItem_list_slice (hx.push _:(s3z.heap.push { cls:=.type "slice",data:=.fields #[vx,vy,.none] }).IsList b vb) (Heap.IsSliceOf.new ..) px py .none (by simp) ?_ (by rw [(by simpa using rx.length:vb.size = xs.length)];unfold lim at hlen;unfold sizeLine;exact vAz hlen (by decide))
   refine nn fun gN=>?_
   obtain ⟨g1,r1,sb1⟩:=rx.drop (x.elim 0 (clipAt xs.length))
   obtain ⟨g2,r2,sb2⟩:=r1.take (y.elim xs.length (clipAt xs.length) - x.elim 0 (clipAt xs.length))
   have hitems:(slicePick vb x y none).toList = (vb.toList.drop (x.elim 0 (clipAt xs.length))).take (y.elim xs.length (clipAt xs.length) - x.elim 0 (clipAt xs.length)):=by
    rw [slicePick_plain,(by simpa using rx.length:vb.size = xs.length)]
   refine gN ?_
   refine hQ _ _ _ (_ :: g2) _ rfl (st.trans (hp.trans (St.push (c:=c) (L:=env.locals) hp.bs { cls:=.type "list",data:=.seq (slicePick vb x y none) }))) (.list (vBL _ rfl) rfl rfl ?_) ?_ ?_
   ·rw [hitems]
    exact r2.keep fun b o e _=>vBB _ (vBB _ e)
   ·intro q hq
    rcases vCu.mp hq with hqq | hq
    ·rw [hqq];exact .inl ((st.trans hp).kp.gone hn (Jq _))
    ·exact ta q (vBC _ (sb1.subset (sb2.subset hq)))
   ·exact jSN (r2.keep fun b o e _=>vBB _ e:Rps c.mg (s3z.heap.push { cls:=.type "slice",data:=.fields #[vx,vy,.none] }) _ _ g2) (Jq _) ((st.trans hp).kp.gone hn (Jq _)) ⟨_,_,_,vBL _ rfl,rfl,rfl⟩
end
theorem jJR:entryFor table "proto.unchain" = some Builtin.«proto.unchain»:=entryFor_of_tree (by kernel_rfl)
theorem jIJ:plainId "proto.unchain" = true:=by decide +kernel
section
variable {w:World}
theorem jGH {α:Type} {s:Shared} {e x:Addr} {ve:Array Value} {Q:α -> Shared -> Prop} (hh:A.handled = some (.ref x))
  (hx:s.heap.get? x = some ox) (hdx:ox.data = .fields vx) (hcx:vx[2]? = some .none)
  (he:s.heap.get? e = some oe) (hde:oe.data = .fields ve) (h2:2 < ve.size) (hne:x ≠ e)
  (h:E (.ref e) { s with heap:=s.heap.update e (Obj.mapFields (·.setIfInBounds 2 (.ref x))) }):wpAny (model prog w) A (raiseNew (.ref e):Sem α) Q E s:=by
 unfold raiseNew
 refine vBE (wpAny_handled ?_)
 rw [hh]
 simp only [(by simpa using hne:((Value.ref x != Value.ref e) = true)),if_true]
 refine vBE (wpAny_holding (wpAny_runValue (codeAny_builtin jJR ?_)))
 rw [Around.under_plainId jIJ _]
 refine vBE (vCH hx hdx hcx ?_)
 rw [if_pos (by rfl)]
 refine vBM ?_
 unfold updateField
 refine vBE (vBE (wpAny_load he ?_))
 rw [hde]
 dsimp only
 rw [if_pos h2]
 exact wpAny_update he (wpAny_throw h)
theorem jUG {s:Shared} {it l x:Addr} {Q:Option Value -> Shared -> Prop} (hh:A.handled = some (.ref x))
  (hx:s.heap.get? x = some ox) (hdx:ox.data = .fields vx) (hcx:vx[2]? = some .none) (hxi:x ≠ it)
  (hit:s.heap.IsListIter it l i) (hl:s.heap.IsList l items) (hi:items[i]? = none)
  (hQ:∀ h',Heap.ExtBut it s.heap h' -> Q none { s with heap:=h' }):wpAny (model prog w) A (pyNext (.ref it)) Q E s:=by
 refine nn fun gN=>?_
 obtain ⟨o,ho,hc,hd⟩:=id hit
 obtain ⟨ol,hol,_,nl,hdl⟩:=hl
 refine gN ?_
 unfold pyNext
 refine vBE (wpAny_attempt (wpAny_callSpecial?_slot (name:=Str.ofString "__next__") hit.typeIs slot_listiter_next
  (wpAny_call_entry slot_listiter_next hit.typeIs entry_listiter_next ?_ (args_listiter_next _))))
 show wpAny _ _ (field (.ref it) 0 >>= _) _ _ s
 refine vBE (vCH ho hd (x:=.ref l) rfl ?_)
 rw [if_neg (show ¬ ((Value.ref l == Value.none) = true) from vCo)]
 refine vBE (vCH ho hd (x:=.int i 0) rfl ?_)
 refine vBE (wpAny_seqItems hol hdl ?_)
 simp only [Int.toNat_natCast,hi]
 refine vBE (wpAny_rule (vBE (wpAny_setField ho hd (by simp) ?_)))
 refine vBE ?_
 simp only [newExc,newTuple]
 refine vBE (vBm ?_ (vBz _))
 refine vBE (m:=firstArgMember _ _) (wpAny_of_eq (a:=Value.none) (by first | rfl | (simp only [firstArgMember];rfl)) ?_)
 refine vBm ?_ (by size_fits)
 have hxl:=vBb hx
 refine jGH (A:=A.in1) (x:=x) (ox:=ox) (vx:=vx) hh ?_ hdx hcx (vBL _ rfl) rfl (by rw [Array.size_append];exact vCP (show 2 < 6 by decide) (vBW 6 _)) ?_ ?_
 ·exact vBB _ (vBB _ (((vBo ..).2 x hxi).trans hx))
 ·exact vCn (vBb (vBB _ (((vBo ..).2 x hxi).trans hx)))
 refine vBE (wpAny_isInstance (T:="StopIteration") (b:=true) ⟨_,vBf _ (vBL _ rfl) rfl,rfl⟩ isSubtype_stop ?_)
 refine vBM (hQ _ ?_)
 intro b o' hb e
 have h2:=vBB { cls:=.type "tuple",dict:=none,data:=.seq ([]:List Value).toArray } (((vBo s.heap it (Obj.mapFields (·.setIfInBounds 0 .none))).2 b hb).trans e)
 have hlt:=vBb h2
 refine (vBx _ _ (fun q=>?_)).trans (vBB _ h2)
 rw [<- q] at hlt
 exact absurd hlt (Nat.lt_irrefl _)
theorem jOR {s:Shared} {it x:Addr} {y left step:Int} {Q:Option Value -> Shared -> Prop} (hh:A.handled = some (.ref x))
  (hx:s.heap.get? x = some ox) (hdx:ox.data = .fields vx) (hcx:vx[2]? = some .none)
  (hit:IsRangeIter s.heap it y left step) (hleft:left <= 0)
  (hQ:∀ h',Heap.ExtBut it s.heap h' -> Q none { s with heap:=h' }):wpAny (model prog w) A (pyNext (.ref it)) Q E s:=by
 unfold pyNext
 refine vBE (wpAny_attempt (wpAny_callSpecial?_slot (name:=Str.ofString "__next__") (⟨_,hit,rfl⟩:s.TypeIs (.ref it) "range_iterator") F.slot_range_iterator_next
  (wpAny_call_entry F.slot_range_iterator_next (⟨_,hit,rfl⟩:s.TypeIs (.ref it) "range_iterator") F.entry_range_iterator_next ?_ (F.args_range_iterator_next_1 _))))
 show wpAny _ _ (field (.ref it) 0 >>= _) _ _ s
 refine vBE (vCH hit rfl (x:=rawInt y) rfl ?_)
 refine vBE (vCH hit rfl (x:=rawInt left) rfl ?_)
 refine vBE (vCH hit rfl (x:=rawInt step) rfl ?_)
 show wpAny _ _ (if left <= 0 then _ else _) _ _ s
 rw [if_pos hleft]
 refine vBE (wpAny_rule ?_)
 refine vBE ?_
 refine vBE ?_
 simp only [newExc,newTuple]
 refine vBE (vBm ?_ (vBz _))
 refine vBE (m:=firstArgMember _ _) (wpAny_of_eq (a:=Value.none) (by first | rfl | (simp only [firstArgMember];rfl)) ?_)
 refine vBm ?_ (by size_fits)
 have hxl:=vBb hx
 refine jGH (A:=A.in1) (x:=x) (ox:=ox) (vx:=vx) hh ?_ hdx hcx (vBL _ rfl) rfl (by rw [Array.size_append];exact vCP (show 2 < 6 by decide) (vBW 6 _)) ?_ ?_
 ·exact vBB _ (vBB _ hx)
 ·exact vCn (vBb (vBB _ hx))
 refine vBE (wpAny_isInstance (T:="StopIteration") (b:=true) ⟨_,vBf _ (vBL _ rfl) rfl,rfl⟩ isSubtype_stop ?_)
 refine vBM (hQ _ ?_)
 intro b o' hb e
 have h2:=vBB { cls:=.type "tuple",dict:=none,data:=.seq ([]:List Value).toArray } e
 have hlt:=vBb h2
 refine (vBx _ _ (fun q=>?_)).trans (vBB _ h2)
 rw [<- q] at hlt
 exact absurd hlt (Nat.lt_irrefl _)
end
section
variable {w:World}
inductive ItObj (h:Heap) (I:Addr):Prop
 | mk (o:Obj) (T:String) (h1:h.get? I = some o) (h2:JW o) (h3:o.cls = .type T) (h4:T ≠ "list") (h5:T ≠ "tuple"):ItObj h I
inductive Wk0 (prog:Program) (w:World) (A:Around) (hm:Bool) (I:Addr) (k:Nat) (P:Nat -> Value -> Prop) (h:Heap) (R:Addr -> Prop):Prop
 | mk (fp:List Addr) (W:Nat -> Heap -> Prop) (hW:Walks prog w A I fp [I] k P W) (h0:W 0 h) (hfp:∀ b ∈ fp,b ≠ I -> ∃ o,h.get? b = some o /\ JW o) (hfp':hm = false -> ∀ b ∈ fp,b = I \/ R b) (hI:∀ i h',W i h' -> ItObj h' I):Wk0 prog w A hm I k P h R
noncomputable def xe (ax:Addr):Obj:={ cls:=.type "list_iterator",data:=.fields #[.ref ax,.int 0 0] }
theorem qGK {x:Addr} (e:h.get? x = some o):x ≠ h.objs.size:=vCn (vBb e)
theorem qn {ax:Addr} (hH:Hm hm A h) (hl:h.IsList ax items) :
  Wk0 prog w A hm h.objs.size items.size (fun i v=>items[i]? = some v) (h.push (xe ax)) (· = ax):=by
 have hlt:ax ≠ h.objs.size:=by obtain ⟨_,e,_⟩:=hl;exact qGK e
 have hI:(h.push (xe ax)).IsListIter h.objs.size ax 0:=⟨_,vBL _ rfl,rfl,rfl⟩
 have hI1:∃ o,(h.push (xe ax)).get? h.objs.size = some o /\ JW o:=⟨_,vBL _ rfl,JS rfl⟩
 have ha1:∃ o,(h.push (xe ax)).get? ax = some o /\ JW o:=by obtain ⟨o,e,_,k,hd⟩:=hl;exact ⟨o,vBB _ e,JK hd⟩
 cases hm with
 | false =>
  refine ⟨[h.objs.size,ax],_,Walks.list hH _ ax hlt items,⟨hI,hl.push _⟩,fun b hb _=>?_,fun _ b hb=>by simpa using hb,fun i h' st=>by obtain ⟨o,e,k,d⟩:=st.1;exact ⟨o,_,e,JS d,k,by decide,by decide⟩⟩
  rcases vCu.mp hb with hqq | hb
  ·rw [hqq];exact hI1
  ·rcases vCu.mp hb with hqq | hb
   ·rw [hqq];exact ha1
   ·cases hb
 | true =>
  refine nn fun gN=>?_
  obtain ⟨x,ox,vx,h1,h2,h3,h4⟩:=hH
  have hxI:x ≠ h.objs.size:=qGK h2
  refine gN ?_
  clear gN
  refine ⟨[h.objs.size,ax,x],fun i h'=>(h'.IsListIter h.objs.size ax i /\ h'.IsList ax items) /\ h'.get? x = some ox,?_,⟨⟨hI,hl.push _⟩,vBB _ h2⟩,fun b hb _=>?_,fun q=>(by cases q),fun i h' st=>by obtain ⟨o,e,k,d⟩:=st.1.1;exact ⟨o,_,e,JS d,k,by decide,by decide⟩⟩
  ·refine ⟨fun b hb=>by simp at hb;simp [hb],fun i h1z h2z st hk=>⟨⟨st.1.1.at fun o e=>hk _ (by simp) o e,st.1.2.at fun o e=>hk ax (by simp) o e⟩,hk x (by simp) _ st.2⟩,?_,?_,?_⟩
   ·intro i s Q E hi st hQ
    refine wpAny_pyNext_list_item st.1.1 st.1.2 (x:=items[i]) (by simp [hi]) fun h' hit' hs'=>?_
    exact hQ _ h' s.toks (by simp [hi]) ⟨⟨hit',st.1.2.extBut hs'.extBut hlt⟩,hs'.extBut x _ hxI st.2⟩ fun b o hb e=>hs'.extBut b o (fun q=>hb (by simp [q])) e
   ·intro s Q E st hQ
    exact jUG h1 st.2 h3 h4 hxI st.1.1 st.1.2 (by simp) fun h' he'=>hQ h' s.toks fun b o hb e=>he' b o (fun q=>hb (by simp [q])) e
   ·intro i s Q E st hQ
    exact wpAny_pyIter_listiter st.1.1 hQ
  ·rcases vCu.mp hb with hqq | hb
   ·rw [hqq];exact hI1
   ·rcases vCu.mp hb with hqq | hb
    ·rw [hqq];exact ha1
    ·rcases vCu.mp hb with hqq | hb
     ·rw [hqq];exact ⟨ox,vBB _ h2,JS h3⟩
     ·cases hb
noncomputable def xn (a k st:Int):Obj:={ cls:=.type "range_iterator",data:=.fields #[rawInt a,rawInt k,rawInt st] }
theorem jTL {a st:Int} (hH:Hm hm A h) :
  Wk0 prog w A hm h.objs.size k (fun i v=>∃ t,v = .int (a + i * st) t) (h.push (xn a k st)) (fun _=>False):=by
 have h0:IsRangeIter (h.push (xn a k st)) h.objs.size (a + (0:Nat) * st) ((k:Int) - (0:Nat)) st:=by
  simpa [IsRangeIter,xn] using (vBL h (o:=xn a k st) rfl)
 cases hm with
 | false =>
  refine ⟨[h.objs.size],_,Walks.range hH _ a st k,h0,fun b hb _=>?_,fun _ b hb=>.inl (vBH.mp hb),fun i h' st=>⟨_,_,st,JS rfl,rfl,by decide,by decide⟩⟩
  rcases vCu.mp hb with rfl | hb
  ·exact (⟨_,vBL _ rfl,JS rfl⟩:∃ o,(h.push (xn a k st)).get? h.objs.size = some o /\ JW o)
  ·cases hb
 | true =>
  refine nn fun gN=>?_
  obtain ⟨x,ox,vx,h1,h2,h3,h4⟩:=hH
  refine gN ?_
  refine ⟨[h.objs.size,x],fun i h'=>IsRangeIter h' h.objs.size (a + (i:Nat) * st) ((k:Int) - (i:Nat)) st /\ h'.get? x = some ox,?_,⟨h0,vBB _ h2⟩,fun b hb _=>?_,fun q=>(by cases q),fun i h' st=>⟨_,_,st.1,JS rfl,rfl,by decide,by decide⟩⟩
  ·refine ⟨fun b hb=>by simp at hb;simp [hb],fun i h1z h2z sti hk=>⟨hk _ (by simp) _ sti.1,hk x (by simp) _ sti.2⟩,?_,?_,?_⟩
   ·intro i s Q E hi sti hQ
    refine wpAny_pyNext_range_item sti.1 (lZ [(k:Int),(i:Int)] (.a (.n 0) (.n 1)) (.s (.v 0) (.v 1)) [(.a (.v 1) (.n 1),.v 0)] rT (zT hi)) fun h' hit' hs'=>?_
    refine hQ _ h' _ ⟨_,rfl⟩ ⟨?_,hs'.extBut x _ (qGK h2:x ≠ h.objs.size) sti.2⟩ fun b o hb e=>hs'.extBut b o (fun q=>hb (by simp [q])) e
    rw [(by push_cast;rw [Int.add_mul,Int.one_mul,Int.add_assoc]:a + ((i + 1:Nat):Int) * st = a + (i:Int) * st + st),(by push_cast;exact Int.le_antisymm (lZ [(k:Int),(i:Int)] (.s (.v 0) (.a (.v 1) (.n 1))) (.s (.s (.v 0) (.v 1)) (.n 1)) [] rT) (lZ [(k:Int),(i:Int)] (.s (.s (.v 0) (.v 1)) (.n 1)) (.s (.v 0) (.a (.v 1) (.n 1))) [] rT):(k:Int) - ((i + 1:Nat):Int) = (k:Int) - (i:Int) - 1)];exact hit'
   ·intro s Q E sti hQ
    exact jOR h1 sti.2 h3 h4 sti.1 (lZ [(k:Int)] (.s (.v 0) (.v 0)) (.n 0) [] rT) fun h' he'=>hQ h' s.toks fun b o hb e=>he' b o (fun q=>hb (by simp [q])) e
   ·intro i s Q E sti hQ
    exact wpAny_pyIter_rangeiter sti.1 hQ
  ·rcases vCu.mp hb with hqq | hb
   ·rw [hqq];exact (⟨_,vBL _ rfl,JS rfl⟩:∃ o,(h.push (xn a k st)).get? h.objs.size = some o /\ JW o)
   ·rcases vCu.mp hb with hqq | hb
    ·rw [hqq];exact ⟨ox,vBB _ h2,JS h3⟩
    ·cases hb
end
section
variable {n:Nat}
inductive ItOk (c:Cx) (hm:Bool) (A:Around) (L:Addr) (T:List Addr -> Prop) (s:Shared) (xs:List D) (I:Addr) (s':Shared):Prop
 | mk (fp:List Addr) (P:Nat -> Value -> Prop) (W:Nat -> Heap -> Prop) (fpA:List Addr) (st:St c L s s') (hW:Walks c.prog c.w A I fp [I] xs.length P W) (h0:W 0 s'.heap) (hI:s.heap.get? I = none)
   (hfp:∀ b ∈ fp,b ≠ I -> ∃ o,s'.heap.get? b = some o /\ JW o) (hWI:∀ i h',W i h' -> ItObj h' I) (hfp':hm = false -> ∀ b ∈ fp,b = I \/ b ∈ fpA) (hT:T fpA) (hA:∀ b ∈ fpA,∃ o,s'.heap.get? b = some o /\ o.cls = .type "list")
   (hlen:xs.length <= lim) (hit:∀ i v d,P i v -> xs[i]? = some d -> ∃ g,Rp c.mg s'.heap v d g /\ ∀ a ∈ g,a ∈ fpA):ItOk c hm A L T s xs I s'
theorem ItOk.back {T:List Addr -> Prop} {s:Shared} {xs:List D} {m:Str -> Option Value} (it:ItOk c hm A L (· = []) s1z xs I s') (st:St c L s s1z) (hn:s.heap.Ns L m) (hT:T []):ItOk c hm A L T s xs I s':=by
 refine nn fun gN=>?_
 obtain ⟨fp,P,W,fpA,st',hW,h0,hI,hfp,hWI,hfp',rfl,hA,hlen,hit⟩:=it
 refine gN ?_
 clear gN
 exact ⟨fp,P,W,_,st.trans st',hW,h0,st.kp.gone hn hI,hfp,hWI,hfp',hT,hA,hlen,hit⟩
def DenIt (c:Cx) (hm:Bool) (n:Nat) (sc:Scope) (nm:List Str) (e:Expr) (occ:List Nat) (f:G -> Option (R (List D))):Prop :=
 ∀ (A:Around) (l:List Env) (env:Env) (Z:G) (vf:Tb) (s:Shared) (r:R (List D)) (Q:Ta) (E:Ta),
  env.scope = sc -> Room c hm n A l s.heap -> Rd c env nm Z vf s -> f Z = some r -> 
  (∀ xs I s',r = .ok xs -> ItOk c hm A env.locals (Tr c s.heap vf occ) s xs I s' -> Q (.ref I) s') -> 
  (∀ x k s',r = .exc k -> Fly c env.locals l s x k s' -> E x s') -> 
  wpAny (model c.prog c.w) A (eval e env) (fun x s1z=>wpAny (model c.prog c.w) A (pyIter x) Q E s1z) E s
def itF (a:D × Nat):Option (R (List D)):=match a.1 with
 | .list xs=>if xs.length <= lim then some (.ok xs) else none
 | _=>none
theorem zO {o:List Nat} (h1:Den c hm n sc nm e o f):DenIt c hm n sc nm e o (fun Z=>JR (f Z) itF):=by
 intro A l env Z vf s r Q E hsc hR hRd hf hQ hE
 obtain ⟨m,hn⟩:=hRd.ns
 refine h1.run hsc hR hRd hf (fun a la _ hf va fa s1z st1z ra ta lva hR1 hRd1=>?_) hE
 unfold itF at hf
 dsimp only at hf
 cases a with
 | list xs =>
  dsimp only at hf
  split at hf
  ·refine nn fun gN=>?_
   rename_i hlen
   obtain rfl:=vAy hf
   obtain ⟨b,vb,fb,hx,rx⟩:=QR ra
   refine gN ?_
   clear gN
   refine vCT hx ?_
   refine nn fun gN=>?_
   obtain ⟨fp,W,hW,h0,hfp,hfp',hWI⟩:=qn (prog:=c.prog) (w:=c.w) (hm:=hm) (A:=A) hR1.hm hx
   rw [(by simpa using rx.length:vb.size = xs.length)] at hW
   refine gN ?_
   clear gN
   refine hQ xs _ _ rfl ⟨fp,_,W,b :: fb,st1z.trans (St.push (c:=c) (L:=env.locals) (s:=s1z) hRd1.bs (xe b)),hW,h0,st1z.kp.gone hn (Jq _),hfp,hWI,fun q y hy=>(hfp' q y hy).imp id fun e=>by rw [e];exact vBA ..,ta,?_,hlen,?_⟩
   ·intro y hy
    refine nn fun gN=>?_
    obtain ⟨o,vs,k,e1,e2,_⟩:=ra.fp_list y hy
    refine gN ?_
    clear gN
    exact ⟨o,vBB _ e1,e2⟩
   ·intro i v d hv hd
    refine nn fun gN=>?_
    obtain ⟨v',g,k1,k2,k3⟩:=rx.get hd
    have:v = v':=by
     exact vAy (hv.symm.trans (by simpa using k1:vb[i]? = some v'))
    subst this
    refine gN ?_
    clear gN
    exact ⟨g,k2.keep fun b o e _=>vBB _ e,fun a ha=>vBC _ (k3 a ha)⟩
  ·exact nos hf
 | _=>exact nos hf
def qEA (a b:Int):Option (R (List D)) :=
 if -1000000000 <= a /\ a <= 1000000000 /\ b <= 1000000000 /\ -1000000000 <= b /\ (b - a).toNat <= lim then some (.ok ((List.range (b - a).toNat).map fun (i:Nat)=>.int (a + i))) else none
def jEU (ds:List D):Option (R (List D)):=match ds with
 | [b]=>ofI b fun b=>qEA 0 b
 | [a,b]=>ofI a fun a=>ofI b fun b=>qEA a b
 | [a,b,st]=>ofI a fun a=>ofI b fun b=>ofI st fun st=>if st = -1 /\ -1000000000 <= a /\ a <= 1000000000 /\ b <= 1000000000 /\ -1000000000 <= b /\ (a - b).toNat <= lim then some (.ok ((List.range (a - b).toNat).map fun (i:Nat)=>.int (a - i))) else none
 | _=>none
theorem qBG {r:R (List D)} (h:jEU ds = some r):(∃ b,ds = [.int b]) \/ (∃ a b,ds = [.int a,.int b]) \/ ∃ a b st,ds = [.int a,.int b,.int st]:=by
 refine nn fun gN=>?_
 obtain _ | ⟨x,_ | ⟨y,_ | ⟨z,_ | _⟩⟩⟩:=ds
 ·exact nos h
 ·obtain ⟨b,e,_⟩:=Qe h;exact gN <| .inl ⟨b,by rw [e]⟩
 ·obtain ⟨a,e,h⟩:=Qe h;obtain ⟨b,e',_⟩:=Qe h;exact gN <| .inr (.inl ⟨a,b,by rw [e,e']⟩)
 ·obtain ⟨a,e,h⟩:=Qe h;obtain ⟨b,e',h⟩:=Qe h;obtain ⟨c,e'',_⟩:=Qe h;exact gN <| .inr (.inr ⟨a,b,c,by rw [e,e',e'']⟩)
 ·exact nos h
theorem zo {s:Shared} {m:Str -> Option Value} {Q:Ta} {x:Addr} {a b st:Int} {u v:Tok} (hR:Room c hm n A l s.heap) (_:s.heap.Ns L m) (hb:Gd c s)
  (hr:IsRange s.heap x a b st t u v) (hsmall:Builtin.Range.small a b st = true) (hk:Builtin.Range.rangeSize a b st = k) (hlen:k <= lim) (g:Nat -> Int) (hg:∀ i:Nat,g i = a + i * st)
  (hQ:∀ I s',ItOk c hm A L (· = []) s ((List.range k).map (fun i=>D.int (g i))) I s' -> Q (.ref I) s') :
  wpAny (model c.prog c.w) A (pyIter (.ref x)) Q E s:=by
 refine wpAny_pyIter_range hr hsmall ?_
 rw [hk]
 refine nn fun gN=>?_
 obtain ⟨fp,W,hW,h0,hfp,hfp',hWI⟩:=jTL (prog:=c.prog) (w:=c.w) (hm:=hm) (A:=A) (a:=a) (st:=st) (k:=k) hR.hm
 refine gN ?_
 refine hQ _ _ ⟨fp,_,W,[],(St.push (c:=c) (L:=L) (s:=s) hb (xn a k st)),(by simp:((List.range k).map fun i=>D.int (g i)).length = k).symm ▸ hW,h0,Jq _,hfp,hWI,fun q y hy=>(hfp' q y hy).imp id False.elim,rfl,fun _ h=>(nomatch h),(by simp:((List.range k).map fun i=>D.int (g i)).length = k).symm ▸ hlen,?_⟩
 intro i v d hv hd
 refine nn fun gN=>?_
 obtain ⟨t',rfl⟩:=hv
 simp only [vBg,vBD] at hd
 obtain ⟨i',h2,rfl⟩:=hd
 have:i' = i:=by
  rw [List.getElem?_range (by
   simpa using ((vBY.mp h2).1))] at h2
  exact (vAy h2).symm
 subst this
 refine gN ?_
 exact ⟨[],by rw [hg];exact Rp.int _ t',fun _ h=>nomatch h⟩
theorem jRZ {a b:Int} {r:R (List D)} (h:qEA a b = some r):(-1000000000 <= a /\ a <= 1000000000 /\ b <= 1000000000 /\ -1000000000 <= b /\ (b - a).toNat <= lim) /\ r = .ok ((List.range (b - a).toNat).map fun (i:Nat)=>.int (a + i)):=by
 unfold qEA at h
 split at h
 ·exact ⟨by assumption,(vAy h).symm⟩
 ·exact nos h
theorem qIV (a b:Int) (h:-1000000000 <= a /\ a <= 1000000000 /\ b <= 1000000000 /\ -1000000000 <= b /\ (b - a).toNat <= lim):Builtin.Range.small a b 1 = true:=small_one (Int.le_trans (by decide) h.1) (Int.lt_of_le_of_lt h.2.1 (by decide)) (Int.le_trans (by decide) h.2.2.2.1) (Int.lt_of_le_of_lt h.2.2.1 (by decide))
theorem qIU (a b:Int):Builtin.Range.rangeSize a b 1 = ((b - a).toNat:Nat):=by
 rw [rangeSize_one]
 split
 ·rename_i h;exact (vCE (Int.sub_nonneg_of_le (Int.le_of_lt h))).symm
 ·rename_i h;rw [Int.toNat_of_nonpos (Int.sub_nonpos_of_le (Int.not_lt.mp h))];rfl
theorem qJA (a b:Int):Builtin.Range.rangeSize a b (-1) = ((a - b).toNat:Nat):=by
 unfold Builtin.Range.rangeSize
 rw [if_neg (by decide)]
 split
 ·rename_i h;simp;exact (Int.max_eq_left (Int.sub_nonneg_of_le (Int.le_of_lt h))).symm
 ·rename_i h;rw [Int.toNat_of_nonpos (Int.sub_nonpos_of_le (Int.not_lt.mp h))];rfl
theorem qLX (a b:Int) (h:-1000000000 <= a /\ a <= 1000000000 /\ b <= 1000000000 /\ -1000000000 <= b /\ (a - b).toNat <= lim):Builtin.Range.small a b (-1) = true:=by
 unfold Builtin.Range.small
 rw [qJA]
 obtain ⟨h1,h2,h3,h4,h5⟩:=h
 have h7:=zL h5
 have h8:=vBi (a - b).toNat
 generalize ((a - b).toNat:Int) = z at *
 have L:∀ {x:Int},-1000000000 <= x -> -9223372036854775808 <= x:=fun h=>Int.le_trans (by decide) h
 have R:∀ {x:Int},x <= 1000000000 -> x < 9223372036854775808:=fun h=>Int.lt_of_le_of_lt h (by decide)
 unfold Builtin.Range.rangeFitsLong
 simp
 exact ⟨⟨⟨⟨L h1,R h2⟩,L h4,R h3⟩,Int.le_trans (by decide) h8,Int.lt_of_le_of_lt h7 (by decide)⟩,.inr ⟨L h4,R h3⟩⟩
theorem QW {g:G -> Option (R (List D))} (ok:c.Ok) (hg:Glb c x (.type "range"))
  (h1:DenA c hm n sc nm (e :: rest) o1 g) (hk:autoParam (sc.names.lookup x = some .globalImplicit) yK) (hd:autoParam ((x == ("__debug__":Str)) = false) yK)
  (hs:autoParam (QC e) yN) (hp:autoParam (jKL rest) yN) :
  DenIt c hm n sc nm (.Call (.Name x np) (e :: rest) [] pos) [] (fun Z=>JR (g Z) jEU):=by
 intro A l env Z vf s r Q E hsc hR hRd hf hQ hE
 obtain ⟨m,hn⟩:=hRd.ns
 refine Call_ (J8 ok hRd hsc hk hd hg ?_) (by rfl)
 refine PyProof.Rows.callWith_type1 ?_ (hs _ _) (hp _ _)
 refine h1.run hsc hR hRd hf (fun ds hfs hf vs fs s1z st1z rs ts hR1 hRd1=>?_) hE
 clear hfs
 obtain ⟨m1z,hn1z⟩:=hRd1.ns
 rcases qBG hf with ⟨b,rfl⟩ | ⟨a,b,rfl⟩ | ⟨a,b,st0,rfl⟩
 ·refine nn fun gN=>?_
  obtain ⟨va,rfl,ra⟩:=rs.inv1
  obtain ⟨t,rfl,rfl⟩:=ra.inv
  obtain ⟨hc,rfl⟩:=jRZ hf
  refine gN ?_
  clear gN
  refine call_range_1 ?_
  have hp:=St.of_keeps (c:=c) (L:=env.locals) (s:=s1z) hRd1.bs (s1z.heap.push { cls:=.type "range",data:=.fields #[.int 0 s1z.toks,.int b t,.int 1 (s1z.toks + 1)] }) (s1z.toks + 1 + 1) (fun _ _ e=>vBB _ e) (vBr _)
  refine zo (L:=env.locals) (hR1.keep hp.kp hn1z) (hp.kp.ns _ hn1z) hp.bs (IsRange.new ..) (qIV _ _ hc) (qIU 0 b) hc.2.2.2.2 (fun i=>0 + i) (fun i=>by rw [Int.mul_one]) ?_
  exact fun I s' it=>hQ _ I s' rfl (it.back (st1z.trans hp) hn Tr.nil)
 ·refine nn fun gN=>?_
  obtain ⟨va,vb,fa,fb,ra,rb⟩:=rs.inv2
  obtain ⟨t,rfl,rfl⟩:=ra.inv
  obtain ⟨u,rfl,rfl⟩:=rb.inv
  obtain ⟨hc,rfl⟩:=jRZ hf
  refine gN ?_
  clear gN
  refine call_range_2 ?_
  have hp:=St.of_keeps (c:=c) (L:=env.locals) (s:=s1z) hRd1.bs (s1z.heap.push { cls:=.type "range",data:=.fields #[.int a t,.int b u,.int 1 s1z.toks] }) (s1z.toks + 1) (fun _ _ e=>vBB _ e) (vBr _)
  refine zo (L:=env.locals) (hR1.keep hp.kp hn1z) (hp.kp.ns _ hn1z) hp.bs (IsRange.new ..) (qIV _ _ hc) (qIU a b) hc.2.2.2.2 (fun i=>a + i) (fun i=>by rw [Int.mul_one]) ?_
  exact fun I s' it=>hQ _ I s' rfl (it.back (st1z.trans hp) hn Tr.nil)
 ··refine nn fun gN=>?_
   obtain ⟨⟨rfl,hc⟩,hg⟩:=ifs hf
   obtain rfl:=vAy hg
   obtain ⟨ra,r1⟩:=rs.invC
   obtain ⟨rb,r2⟩:=r1.invC
   obtain ⟨rc,r3⟩:=r2.invC
   obtain ⟨rfl,rfl⟩:=r3.inv
   obtain ⟨t,rfl,rfl⟩:=ra.inv
   obtain ⟨u,rfl,rfl⟩:=rb.inv
   obtain ⟨v,rfl,rfl⟩:=rc.inv
   refine gN ?_
   clear gN
   refine call_range_3 (by decide) ?_ (.inl (PyProof.noPylong_small (by decide)))
   have hp:=St.of_keeps (c:=c) (L:=env.locals) (s:=s1z) hRd1.bs (s1z.heap.push { cls:=.type "range",data:=.fields #[.int a t,.int b u,.int (-1) v] }) s1z.toks (fun _ _ e=>vBB _ e) hRd1.bs.2
   refine zo (L:=env.locals) (hR1.keep hp.kp hn1z) (hp.kp.ns _ hn1z) hp.bs (IsRange.new ..) (qLX _ _ hc) (qJA _ _) hc.2.2.2.2 (fun i=>a - i) (fun i=>by rw [Int.mul_neg,Int.mul_one];rfl) ?_
   exact fun I s' it=>hQ _ I s' rfl (it.back (st1z.trans hp) hn Tr.nil)
end
def KpB (S:List Addr) (h h':Heap):Prop:=∀ b o,b ∉ S -> h.get? b = some o -> (JW o -> h'.get? b = some o) /\ ∃ sl,h'.get? b = some { o with slots:=sl }
theorem KpB.refl (S:List Addr) (h:Heap):KpB S h h:=fun _ o _ e=>⟨fun _=>e,o.slots,e⟩
theorem KpB.trans {S:List Addr} (x:KpB S h1z h2z) (y:KpB S h2z h3z):KpB S h1z h3z:=fun b o hb e=>by
 refine nn fun gN=>?_
 obtain ⟨h1,sl,h2⟩:=x b o hb e
 obtain ⟨h3,sl',h4⟩:=y b _ hb h2
 refine gN ?_
 clear gN
 exact ⟨fun nd=>(y b o hb (h1 nd)).1 nd,sl',h4⟩
theorem KpB.of_but {S:List Addr} (k:∀ b o,b ∉ S -> h.get? b = some o -> h'.get? b = some o):KpB S h h':=fun b o hb e=>⟨fun _=>k b o hb e,o.slots,k b o hb e⟩
theorem KpB.of_kp {S:List Addr} (k:Kp C h h') (hC:C ∈ S):KpB S h h':=fun b o hb e =>
 ⟨fun nd=>k.obj b o (fun q=>hb (q ▸ hC)) e nd,k.dct b o (fun q=>hb (q ▸ hC)) e⟩
theorem KpB.kp {S:List Addr} (k:KpB S h h') (hS:∀ b ∈ S,h.get? b = none):Kp L h h':=by
 have hb:∀ b o,h.get? b = some o -> b ∉ S:=fun b o e hm=>by rw [hS b hm] at e;exact nos e
 refine ⟨fun b o _ e nd=>(k b o (hb b o e) e).1 nd,fun b o _ e=>(k b o (hb b o e) e).2,fun m hn=>?_⟩
 obtain ⟨o,es,ep,h1,h2,h3⟩:=hn
 obtain ⟨sl,h4⟩:=(k L o (hb L o h1) h1).2
 exact ⟨_,es,ep,h4,h2,h3⟩
theorem KpB.mono {S T:List Addr} (k:KpB S h h') (hs:∀ b ∈ S,b ∈ T):KpB T h h':=fun b o hb e=>k b o (fun q=>hb (hs b q)) e
noncomputable def Zg (scope sc:Scope):Scope :=
 { scope with names:=scope.names.map fun (n,k)=>if (k == .free && sc.kind == .function && sc.names.lookup n == some .cell) then (n,.cell) else (n,k) }
noncomputable def kh (cells:List (Str × Addr)):List (Str × NameKind) -> List (Str × Addr) -> List (Str × Addr)
 | [],acc=>acc
 | (x,k) :: r,acc=>kh cells r (if k == .free then (match cells.lookup x with | some a=>(x,a) :: acc | none=>acc) else acc)
theorem jUR {α β:Type} (f:α -> β -> Sem (ForInStep β)) (g:α -> β -> β):∀ (l:List α) (b:β),(∀ x ∈ l,∀ b,f x b = pure (.yield (g x b))) -> forIn l b f = pure (l.foldl (fun b x=>g x b) b):=by
 intro l
 induction l with
 | nil =>
  intro b _
  exact rfl
 | cons x l ih =>
  intro b h
  rw [List.forIn_cons,h x vBA,pure_bind]
  exact ih _ fun y hy=>h y (vBC _ hy)
theorem jMT (cells:List (Str × Addr)):∀ (l:List (Str × NameKind)) (acc:List (Str × Addr)),
  l.foldl (fun b (x:Str × NameKind)=>if x.2 == .free then (match cells.lookup x.1 with | some a=>(x.1,a) :: b | none=>b) else b) acc = kh cells l acc:=by
 intro l
 induction l with
 | nil =>
  intro _
  exact rfl
 | cons hxx r ih =>
  intro acc
  obtain ⟨x,k⟩:=hxx
  rw [List.foldl_cons,kh];exact ih _
theorem zU (h:∀ x ∈ scope.names,x.2 = .free -> ∃ a,env.cells.lookup x.1 = some a):closureFor scope env = pure (kh env.cells scope.names []):=by
 unfold closureFor
 rw [<- jMT]
 dsimp only
 rw [jUR _ (fun (x:Str × NameKind) b=>if x.2 == .free then (match env.cells.lookup x.1 with | some a=>(x.1,a) :: b | none=>b) else b) scope.names []]
 ·rfl
 ·rintro ⟨x,k⟩ hx b
  by_cases hk:k = .free
  ·obtain ⟨a,ha⟩:=h (x,k) hx hk
   dsimp only at ha
   subst hk
   simp only [beq_self_eq_true,if_true,ha]
   unfold cellOf
   rw [ha]
   rfl
  ·have:(k == NameKind.free) = false:=by simpa using hk
   simp only [this,Bool.false_eq_true,if_false]
theorem zV {cells:List (Str × Addr)} {a:Addr} (hy:cells.lookup y = some a):∀ (names:List (Str × NameKind)) (acc:List (Str × Addr)),
  (acc.lookup y = none \/ acc.lookup y = some a) -> ((y,NameKind.free) ∈ names \/ acc.lookup y = some a) -> (kh cells names acc).lookup y = some a:=by
 intro names
 induction names with
 | nil =>
  intro acc _ h
  rcases h with h | h
  ·cases h
  ·exact h
 | cons hxx r ih =>
  intro acc h0 h
  obtain ⟨x,k⟩:=hxx
  rw [kh]
  by_cases hx:x = y
  ·subst hx
   by_cases hk:k = .free
   ·subst hk
    simp only [beq_self_eq_true,if_true,hy]
    exact ih _ (.inr (by simp)) (.inr (by simp))
   ·simp only [(by simpa using hk:(k == NameKind.free) = false),Bool.false_eq_true,if_false]
    refine ih acc h0 ?_
    rcases h with h | h
    ·rcases vCu.mp h with e | h
     ·cases e;exact absurd rfl hk
     ·exact .inl h
    ·exact .inr h
  ·have hl:∀ b,List.lookup y ((x,b) :: acc) = acc.lookup y:=fun b=>by simp [List.lookup_cons,(by simpa using fun e:y = x=>hx e.symm:(y == x) = false)]
   have hmem:(y,NameKind.free) ∈ r \/ acc.lookup y = some a:=by
    rcases h with h | h
    ·rcases vCu.mp h with e | h
     ·cases e;exact absurd rfl hx
     ·exact .inl h
    ·exact .inr h
   split
   ·split
    ·exact ih _ (by rw [hl];exact h0) (by rw [hl];exact hmem)
    ·exact ih _ h0 hmem
   ·exact ih _ h0 hmem
theorem jj:∀ {l:List (Str × NameKind)} {y:Str} {k:NameKind},l.lookup y = some k -> (y,k) ∈ l:=by
 intro l
 induction l with
 | nil =>
  intro _ _ h
  exact nos h
 | cons hxx r ih =>
  intro y k h
  obtain ⟨x,k'⟩:=hxx
  rw [List.lookup_cons] at h
  cases hb:y == x with
  | true=>rw [hb] at h;obtain rfl:=vAy h;rw [vBc] at hb;subst hb;exact vBA ..
  | false=>rw [hb] at h;exact vBC _ (ih h)
theorem xq (hk:sc.kind = .function):∀ {names:List (Str × NameKind)} {y:Str},names.lookup y = some .free -> sc.names.lookup y = some .cell -> 
  (names.map fun (n,k)=>if (k == NameKind.free && sc.kind == .function && sc.names.lookup n == some .cell) then (n,NameKind.cell) else (n,k)).lookup y = some .cell:=by
 intro names
 induction names with
 | nil=>intro _ h _;exact nos h
 | cons xk r ihh =>
  intro y h hc
  obtain ⟨x,k⟩:=xk
  rw [List.lookup_cons] at h
  rw [List.map_cons]
  cases hb:y == x with
  | true =>
   rw [hb] at h;obtain rfl:=vAy h
   rw [vBc] at hb;subst hb
   simp [hk,hc]
  | false =>
   rw [hb] at h
   dsimp only at h
   have ih:=ihh h hc
   dsimp only
   split <;> (rw [List.lookup_cons,hb];exact ih)
noncomputable def jMS (sc scope:Scope) (nm:List Str) (x:Str) (cap:List Nat):Bool :=
 scope.kind == .function && sc.kind == .function && decide (scope.names.lookup x = some .local) &&
 scope.names.all (fun y=>y.2 != .cell) && scope.names.all (fun y=>y.2 != .local || decide (scope.names.lookup y.1 = some .local)) &&
 scope.names.all (fun y=>y.2 != .free || decide (sc.names.lookup y.1 = some .cell)) &&
 cap.all (fun i=>match nm[i]? with | some y=>decide (scope.names.lookup y = some .free) && decide (sc.names.lookup y = some .cell) && y != ("__debug__":Str) && y != ("__classdict__":Str) | none=>false) &&
 x != ("__debug__":Str) && x != ("__classdict__":Str)
noncomputable def jBA (nm:List Str) (x:Str) (cap:List Nat):List Str:=x :: cap.map fun i=>nm.getD i x
noncomputable def YL (cap:List Nat) (Z:G) (d:D):G:=some (d,0) :: cap.map fun i=>(Z[i]?).join
def cpD (t:Option (R Bool)) (e:Tj) (r:Option (List D)):Option (List D):=okR t fun b=>cond b (okV e fun d=>r.map (d :: ·)) r
def zR (fE:Tg) (fC:G -> Option (R Bool)) (cap:List Nat) (Z:G):List D -> Option (List D)
 | []=>some []
 | x :: xs=>cpD (fC (YL cap Z x)) (fE (YL cap Z x)) (zR fE fC cap Z xs)
theorem jJY {x:D} {xs:List D}:zR fE fC cap Z (x :: xs) = cpD (fC (YL cap Z x)) (fE (YL cap Z x)) (zR fE fC cap Z xs):=rfl
def jN (fE:Tg) (fC:G -> Option (R Bool)) (cap:List Nat) (Z:G) (xs:List D):Tj :=
 (zR fE fC cap Z xs).map fun ds=>.ok (.list ds,vg ds)
theorem Z7 {w:World} {s:Shared} {l:Addr} {x:Value} {Q:Ta} (hl:s.heap.IsList l items) (hn:Nd s.heap l)
  (hQ:∀ h',h'.IsList l (items.push x) -> Nd h' l -> Heap.SameBut l s.heap h' -> Q .none { s with heap:=h' }) (hsz:items.size <= sizeLine) :
  wpAny (model prog w) A (call (.builtin "list.append") [.ref l,x]) Q E s:=by
 refine nn fun gN=>?_
 obtain ⟨o,ho,hc,n,hd⟩:=id hl
 obtain ⟨o',vs,k,ho',hd0,hdn⟩:=hn
 refine gN ?_
 clear gN
 rw [ho] at ho';obtain rfl:=vAy ho'
 obtain ⟨n',hd'⟩:=Obj.data_mapSeq hd (·.push x)
 refine wpAny_call_entry slot_list_append hl.typeIs entry_list_append ?_ (args_list_append _ _)
 show wpAny _ _ (updateSeq l (·.push x) >>= fun _=>ret .none) _ _ s
 refine vBE ?_
 have hg:=vBf (h:=s.heap) (Obj.mapSeq (·.push x)) ho (Obj.isFreed_of_seq hd')
 refine wpAny_updateSeq ho hd (vBM ⟨.none,rfl,hQ _ ?_ ⟨_,_,n',hg,hd',?_⟩ (vBo ..)⟩) (hz:=hsz) (_hz':=vAz (vBs (Array.size_push ..)) (vBl hsz))
 ·exact ⟨_,hg,(Obj.cls_mapSeq ..).trans hc,n',hd'⟩
 ·obtain ⟨a,b,d,e⟩:=o
  dsimp only at hd hdn
  subst hd;subst hdn
  rfl
section
variable {n:Nat}
def qLB (c:Cx) (hm:Bool) (n:Nat) (sc:Scope) (nm:List Str) (ifs:List Expr) (f:G -> Option (R Bool)):Prop :=
 ∀ (A:Around) (l:List Env) (env:Env) (Z:G) (vf:Tb) (s:Shared) (b:Bool) (Q:Bool -> Shared -> Prop) (E:Ta),
  env.scope = sc -> Room c hm n A l s.heap -> Rd c env nm Z vf s -> f Z = some (.ok b) -> 
  (∀ s',St c env.locals s s' -> Q b s') -> 
  wpAny (model c.prog c.w) A (forIn ifs true fun c r=>if r = true then do let ok <- isTrue c env (eval c env);pure (ForInStep.yield ok) else pure (ForInStep.yield r)) Q E s
theorem Yd:qLB c hm n sc nm [] (fun _=>some (.ok true)):=by
 intro A l env Z vf s b Q E hsc hR hRd hf hQ
 cases hf
 exact wpAny_tests_nil (hQ _ (St.refl hRd.bs))
theorem qDE {f:G -> Option (R Bool)} (h:DenB c hm n sc nm e f):qLB c hm n sc nm [e] f:=by
 intro A l env Z vf s b Q E hsc hR hRd hf hQ
 exact wpAny_tests_one (h A l env Z vf s _ Q E hsc hR hRd hf (fun b' s' e st=>by cases e;exact hQ s' st) fun x k s' e=>rno e)
structure CompI (sc scope:Scope) (nm:List Str) (x:Str) (cap:List Nat):Prop where
 k1:scope.kind = .function
 k2:sc.kind = .function
 k3:scope.names.lookup x = some .local
 k4:∀ y ∈ scope.names,y.2 ≠ .cell
 k5:∀ y ∈ scope.names,y.2 = .local -> scope.names.lookup y.1 = some .local
 k6:∀ y ∈ scope.names,y.2 = .free -> sc.names.lookup y.1 = some .cell
 k7:∀ i ∈ cap,∃ y,nm[i]? = some y /\ scope.names.lookup y = some .free /\ sc.names.lookup y = some .cell /\ (y == ("__debug__":Str)) = false /\ (y == ("__classdict__":Str)) = false
 k8:(x == ("__debug__":Str)) = false
 k9:(x == ("__classdict__":Str)) = false
theorem z9 (h:jMS sc scope nm x cap = true):CompI sc scope nm x cap:=by
 refine nn fun gN=>?_
 simp only [jMS,vBR,vBt,vBc,vBZ,bne_iff_ne,vCD,ne_eq] at h
 obtain ⟨⟨⟨⟨⟨⟨⟨⟨h1,h2⟩,h3⟩,h4⟩,h5⟩,h6⟩,h7⟩,h8⟩,h9⟩:=h
 refine gN ?_
 clear gN
 refine ⟨h1,h2,h3,h4,fun y hy q=>(h5 y hy).resolve_left (fun e=>e q),fun y hy q=>(h6 y hy).resolve_left (fun e=>e q),fun i hi=>?_,by simpa using h8,by simpa using h9⟩
 have:=h7 i hi
 split at this
 ·rename_i y e
  simp only [vBR,vBZ,bne_iff_ne,ne_eq] at this
  exact ⟨y,e,this.1.1.1,this.1.1.2,by simpa using this.1.2,by simpa using this.2⟩
 ·cases this
theorem jBF:∀ {names:List (Str × NameKind)} {y:Str},(∀ p ∈ names,p.2 ≠ NameKind.cell) -> 
  (names.map fun (n,k)=>if (k == NameKind.free && sc.kind == .function && sc.names.lookup n == some .cell) then (n,NameKind.cell) else (n,k)).lookup y = some .cell -> names.lookup y = some .free:=by
 intro names
 induction names with
 | nil=>intro _ _ h;exact nos h
 | cons xk r ihh =>
  intro y hc h
  obtain ⟨x,k⟩:=xk
  rw [List.map_cons] at h
  rw [List.lookup_cons]
  dsimp only at h
  cases hb:y == x with
  | true =>
   split at h
   ·rename_i hk
    simp only [vBR,vBc] at hk
    rw [hk.1.1]
   ·rw [List.lookup_cons,hb] at h
    obtain rfl:=vAy h
    exact absurd rfl (hc _ (vBA ..))
  | false =>
   have ih:=@ihh y (fun p hp=>hc p (vBC _ hp))
   split at h <;> (rw [List.lookup_cons,hb] at h;exact ih h)
theorem Kp.thenB {S:List Addr} {m:Str -> Option Value} (k:Kp L h h2z) (hn:h.Ns L m) (kb:KpB S h2z h') (hS:∀ b ∈ S,h.get? b = none):Kp L h h':=by
 have hb:∀ b o,h.get? b = some o -> b ∉ S:=fun b o e hm=>by rw [hS b hm] at e;exact nos e
 have hL:L ∉ S:=by obtain ⟨o,_,_,e,_⟩:=hn;exact hb L o e
 refine ⟨fun b o q e nd=>(kb b o (hb b o e) (k.obj b o q e nd)).1 nd,fun b o q e=>?_,fun m' hm=>?_⟩
 ·obtain ⟨sl,e2⟩:=k.dct b o q e
  obtain ⟨sl',e3⟩:=(kb b _ (hb b o e) e2).2
  exact ⟨sl',e3⟩
 ·obtain ⟨o,es,ep,h1,h2,h3⟩:=k.ns m' hm
  obtain ⟨sl,h4⟩:=(kb L o hL h1).2
  exact ⟨_,es,ep,h4,h2,h3⟩
theorem Den.ok (h:Den c hm n sc nm e occ f) {s:Shared} {Q:Ta}
  (hsc:env.scope = sc) (hR:Room c hm n A l s.heap) (hRd:Rd c env nm Z vf s) (hf:f Z = some (.ok (d,lv)))
  (hQ:∀ v fp s',St c env.locals s s' -> Rp c.mg s'.heap v d fp -> Tr c s.heap vf occ fp -> Lv s.heap s'.heap lv fp -> Q v s'):wpAny (model c.prog c.w) A (eval e env) Q E s :=
 h A l env Z vf s _ Q E hsc hR hRd hf (fun v d' lv' fp s' e=>by cases e;exact hQ v fp s') fun _ _ _ e=>rno e
theorem DenB.ok {f:G -> Option (R Bool)} (h:DenB c hm n sc nm e f) {s:Shared} {b:Bool} {Q:Bool -> Shared -> Prop} 
  (hsc:env.scope = sc) (hR:Room c hm n A l s.heap) (hRd:Rd c env nm Z vf s) (hf:f Z = some (.ok b)) (hQ:∀ s',St c env.locals s s' -> Q b s'):wpAny (model c.prog c.w) A (isTrue e env (eval e env)) Q E s :=
 h A l env Z vf s _ Q E hsc hR hRd hf (fun b' s' e=>by cases e;exact hQ s') fun _ _ _ e=>rno e
theorem DenA.ok {f:G -> Option (R (List D))} (h:DenA c hm n sc nm es occ f) {s:Shared} {Q:List Value -> Shared -> Prop} 
  (hsc:env.scope = sc) (hR:Room c hm n A l s.heap) (hRd:Rd c env nm Z vf s) (hf:f Z = some (.ok ds)) (hQ:∀ vs fp s',St c env.locals s s' -> Rps c.mg s'.heap vs ds fp -> Tr c s.heap vf occ fp -> Q vs s'):wpAny (model c.prog c.w) A (spliced (backTo pos (starEach es env))) Q E s :=
 h A l env Z vf s pos _ Q E hsc hR hRd hf (fun vs ds' fp s' e=>by cases e;exact hQ vs fp s') fun _ _ _ e=>rno e
theorem DenIt.ok {f:G -> Option (R (List D))} (h:DenIt c hm n sc nm e occ f) {s:Shared} {xs:List D} {Q:Ta}
  (hsc:env.scope = sc) (hR:Room c hm n A l s.heap) (hRd:Rd c env nm Z vf s) (hf:f Z = some (.ok xs)) (hQ:∀ I s',ItOk c hm A env.locals (Tr c s.heap vf occ) s xs I s' -> Q (.ref I) s') :
  wpAny (model c.prog c.w) A (eval e env) (fun x s1z=>wpAny (model c.prog c.w) A (pyIter x) Q E s1z) E s :=
 h A l env Z vf s _ Q E hsc hR hRd hf (fun xs' I s' e=>by cases e;exact hQ I s') fun _ _ _ e=>rno e
theorem DenIt.exc {f:G -> Option (R (List D))} (h:DenIt c hm n sc nm e occ f) {s:Shared} {k:Str} {Q:Ta}
  (hsc:env.scope = sc) (hR:Room c hm n A l s.heap) (hRd:Rd c env nm Z vf s) (hf:f Z = some (.exc k)) (hE:∀ x s',Fly c env.locals l s x k s' -> E x s') :
  wpAny (model c.prog c.w) A (eval e env) (fun x s1z=>wpAny (model c.prog c.w) A (pyIter x) Q E s1z) E s :=
 h A l env Z vf s _ Q E hsc hR hRd hf (fun _ _ _ e=>rnx e) fun x k' s' e=>by cases e;exact hE x s'
theorem jVB {xs rest:List D} (h:zR fE fC cap Z (d :: xs) = some rest) :
  (fC (YL cap Z d) = some (.ok false) /\ zR fE fC cap Z xs = some rest) \/ ∃ dE lE rest',fC (YL cap Z d) = some (.ok true) /\ fE (YL cap Z d) = some (.ok (dE,lE)) /\ zR fE fC cap Z xs = some rest' /\ rest = dE :: rest':=by
 obtain ⟨b,q,h⟩:=jIM h
 cases b with
 | false=>exact .inl ⟨q,h⟩
 | true =>
  have h:okV (fE (YL cap Z d)) (fun d=>(zR fE fC cap Z xs).map (d :: ·)) = some rest:=h
  obtain ⟨dE,lE,q',h⟩:=jCB h
  obtain ⟨r',h1,h2⟩:=vBD.mp h
  exact .inr ⟨_,_,r',q,q',h1,h2.symm⟩
theorem qCV {α:Type} {xs:List α} (h:i < xs.length):∃ d,xs[i]? = some d /\ xs.drop i = d :: xs.drop (i + 1):=⟨xs[i],vBP h,List.drop_eq_getElem_cons h⟩
def SameS (s s':Shared):Prop:=∃ h tk,s' = { s with heap:=h,toks:=tk }
theorem SameS.trans {s s2z:Shared} (x:SameS s s1z) (y:SameS s1z s2z):SameS s s2z:=by
 obtain ⟨h,tk,rfl⟩:=x
 obtain ⟨h',tk',rfl⟩:=y
 exact ⟨h',tk',rfl⟩
theorem jPC {Da:Addr} {ys:Array Value} (k:Kp L h h') (hne:Da ≠ L) (x:h.IsList Da ys):h'.IsList Da ys:=by
 obtain ⟨o,e,hc',q,hd'⟩:=x
 exact ⟨o,k.obj _ o hne e (JK hd'),hc',q,hd'⟩
theorem qJQ {Da:Addr} (k:Kp L h h') (hne:Da ≠ L) (x:Nd h Da):Nd h' Da:=by
 obtain ⟨o,vs',k',e,e2,e3⟩:=x
 exact ⟨o,vs',k',k.obj _ o hne e (JK e2),e2,e3⟩
inductive CInv (c:Cx) (s:Shared) (W:Nat -> Heap -> Prop) (fp:List Addr) (I Da C:Addr) (h1z:Heap) (K:Addr -> Prop) (F:List D -> Option (List D)) (xs total:List D) (s':Shared) (k:Nat):Prop
 | mk {i:Nat} {ys:Array Value} {ds rest:List D} {fpS:List Addr} {m':Str -> Option Value} (hsame:SameS s s') (hgd:Gd c s') (hWi:W i s'.heap) (hfpd:∀ b ∈ fp,b ≠ I -> ∃ o,s'.heap.get? b = some o /\ JW o)
   (hys:s'.heap.IsList Da ys) (hyd:Nd s'.heap Da) (hrs:Rps c.mg s'.heap ys.toList ds fpS) (hcd:F (xs.drop i) = some rest) (htot:total = ds ++ rest) (hdl:ds.length <= i) (hns:s'.heap.Ns C m') (hkp:KpB [C,Da,I] h1z s'.heap)
   (hfpS:∀ a ∈ fpS,K a) (hi:i <= xs.length) (hk:k = xs.length + 1 - i):CInv c s W fp I Da C h1z K F xs total s' k
theorem qOE {x a:Addr} (h1:x ≠ a) (h2:x ≠ b):x ∉ [a,b]:=by simp [h1,h2]
theorem qMB {x a c:Addr} (h1:x ≠ a) (h2:x ≠ b) (h3:x ≠ c):x ∉ [a,b,c]:=by simp [h1,h2,h3]
theorem jEE {iter:Expr} {ifs:List Expr} 
  (hok:jMS sc scope nm x cap = true) (hI:DenIt c hm n sc nm iter occI fI) (hT:qLB c hm n (Zg scope sc) (jBA nm x cap) ifs fC) (hEl:Den c hm n (Zg scope sc) (jBA nm x cap) elt occE fE)
  {s:Shared} {RR:Value -> Addr -> Result -> Shared -> Prop}
  (hsc:env.scope = sc) (hR:Room c hm n A l s.heap) (hRd:Rd c env nm Z vf s) (hf:JR (fI Z) (jN fE fC cap Z) = some r)
  (hQ:∀ Da C s' m ds fp,r = .ok (.list ds,vg ds) -> St c env.locals s s' -> Rp c.mg s'.heap (.ref Da) (.list ds) (Da :: fp) -> Tr c s.heap vf (occI ++ cap) (Da :: fp) -> Lv s.heap s'.heap (vg ds) (Da :: fp) -> 
   s'.heap.Ns C m -> s.heap.get? C = none -> c.base.get? C = none -> RR (.ref Da) C (.ok .next) s')
  (hE:∀ x k s',r = .exc k -> Fly c env.locals l s x k s' -> E x s') :
  wpAny (model c.prog c.w) A (eval iter env) (fun xv s1z=>wpAny (model c.prog c.w) A (pyIter xv) (fun it s2z=>wpAny (model c.prog c.w) A (newList []) (fun acc s3z =>
   wpAny (model c.prog c.w) A (newFunctionEnv scope env.globals (kh env.cells scope.names []) [] env.qual none .none (some env)) (fun cenv s4z =>
    codeAny (model c.prog c.w) A (.compStart (.ListComp elt [⟨.Name x px,iter,ifs,0⟩] scope pos) 0 it acc { cenv with scope:=relabel scope env }) (RR acc cenv.locals) s4z) E s3z) E s2z) E s1z) E s:=by
 refine nn fun hN=>?_
 obtain ⟨k1,k2,k3,k4,k5,k6,k7,k8,k9⟩:=z9 hok
 obtain ⟨m,hn⟩:=hRd.ns
 rcases (J6 hf).symm with ⟨k,hfI,hr⟩ | ⟨xs,hfI,hf⟩
 ·exact hN (hI.exc hsc hR hRd hfI fun x s' fl=>hE x k s' hr fl)
 unfold jN at hf
 obtain ⟨total,hD,hr⟩:=vBD.mp hf
 refine hN (hI.ok hsc hR hRd hfI fun I s2z it=>nn fun hN=>?_)
 obtain ⟨fp,P,W,fpA,st2z,hW,h0,hIf,hfp,hWI,_,tA,hfA,hlen,hit⟩:=it
 refine hN <| vBm (wpAny_newFunctionEnv k4 (by intro y hy;simp at hy) (fun h1z hns1 hsb1=>?_) k1) (vBz _)
 generalize hH2:s2z.heap.push { cls:=.type "list",dict:=none,data:=.seq ([]:List Value).toArray } = H2 at hns1 hsb1 ⊢
 have hDC:s2z.heap.objs.size ≠ H2.objs.size:=by rw [(by rw [<- hH2,vCa]:H2.objs.size = s2z.heap.objs.size + 1)];exact vCn (vCd _)
 have below:∀ b,b < s2z.heap.objs.size -> b ≠ H2.objs.size /\ b ≠ s2z.heap.objs.size:=fun b hb=>⟨by rw [(by rw [<- hH2,vCa]:H2.objs.size = s2z.heap.objs.size + 1)];exact vCn (Nat.lt_succ_of_lt hb),vCn hb⟩
 have old:∀ b o,s2z.heap.get? b = some o -> h1z.get? b = some o:=fun b o e=>hsb1.extBut b o (below b (vBb e)).1 (vBB _ (hH2 ▸ vBB _ e))
 have hCn:s.heap.get? H2.objs.size = none:=st2z.kp.gone hn ((fun a ha=>vCA ha:∀ a,s2z.heap.objs.size <= a -> s2z.heap.get? a = none) _ (by rw [(by rw [<- hH2,vCa]:H2.objs.size = s2z.heap.objs.size + 1)];exact vCW _))
 have hDn:s.heap.get? s2z.heap.objs.size = none:=st2z.kp.gone hn ((fun a ha=>vCA ha:∀ a,s2z.heap.objs.size <= a -> s2z.heap.get? a = none) _ (vBI _))
 have hbn:∀ a,s.heap.get? a = none -> c.base.get? a = none:=fun a ha=>by
  cases q:c.base.get? a with
  | none=>rfl
  | some o=>have:=hRd.bs.1 a o q;rw [ha] at this;exact nos this
 have hI2:I ≠ s2z.heap.objs.size /\ I ≠ H2.objs.size:=by obtain ⟨o,e⟩:=(by obtain ⟨o,T,e,_⟩:=(hWI 0 _ h0);exact ⟨o,e⟩:∃ o,s2z.heap.get? I = some o);exact ⟨(below I (vBb e)).2,(below I (vBb e)).1⟩
 have hfp2:∀ b ∈ fp,b ≠ H2.objs.size /\ b ≠ s2z.heap.objs.size:=fun b hb=>by
  by_cases q:b = I
  ·exact q ▸ ⟨hI2.2,hI2.1⟩
  ·obtain ⟨o,e,_⟩:=hfp b hb q;exact below b (vBb e)
 have hS3:∀ b ∈ [H2.objs.size,s2z.heap.objs.size,I],s.heap.get? b = none:=by
  intro b hb
  rcases vCu.mp hb with q | hb
  ·exact q ▸ hCn
  ·rcases vCu.mp hb with q | hb
   ·exact q ▸ hDn
   ·exact vBH.mp hb ▸ hIf
 have loop:codeAny (model c.prog c.w) A (.compLoop (.ListComp elt [⟨.Name x px,iter,ifs,0⟩] scope pos) 0 (.ref I) (.ref s2z.heap.objs.size) (compEnvC scope (kh env.cells scope.names []) H2.objs.size env))
   (RR (.ref s2z.heap.objs.size) H2.objs.size) { s2z with heap:=h1z,toks:=s2z.toks + ([]:List (Str × Value)).length }:=by
  have hkS:∀ h',KpB [H2.objs.size,s2z.heap.objs.size,I] h1z h' -> Kp env.locals s.heap h':=fun h' kb =>
   st2z.kp.thenB hn ((KpB.of_but (S:=[H2.objs.size,s2z.heap.objs.size,I]) fun b o _ e=>old b o e).trans kb) hS3
  have hframe:∀ (i:Nat) (hA hB:Heap),W i hA -> KpB [H2.objs.size,s2z.heap.objs.size] hA hB -> (∀ b ∈ fp,b ≠ I -> ∃ o,hA.get? b = some o /\ JW o) -> W i hB:=by
   intro i hA hB hWi hk hd
   refine hW.frame _ _ _ hWi fun b hb o e=>?_
   have hnd:JW o:=by
    by_cases q:b = I
    ·obtain ⟨o',T,e',nd,_⟩:=hWI i hA hWi
     rw [<- q,e] at e';exact vAy e' ▸ nd
    ·obtain ⟨o',e',nd⟩:=hd b hb q
     rw [e] at e';exact vAy e' ▸ nd
   exact (hk b o (qOE (hfp2 b hb).1 (hfp2 b hb).2) e).1 hnd
  have hfpk:∀ hA hB:Heap,KpB [H2.objs.size,s2z.heap.objs.size,I] hA hB -> (∀ b ∈ fp,b ≠ I -> ∃ o,hA.get? b = some o /\ JW o) -> ∀ b ∈ fp,b ≠ I -> ∃ o,hB.get? b = some o /\ JW o:=by
   intro hA hB hk hd b hb q
   obtain ⟨o',e',nd⟩:=hd b hb q
   exact ⟨o',(hk b o' (qMB (hfp2 b hb).1 (hfp2 b hb).2 q) e').1 nd,nd⟩
  have hrsk:∀ (hA hB:Heap) (vs:List Value) (es:List D) (f:List Addr),ItObj hA I -> (∃ ys',hA.IsList s2z.heap.objs.size ys') -> (∃ m',hA.Ns H2.objs.size m') -> KpB [H2.objs.size,s2z.heap.objs.size,I] hA hB -> Rps c.mg hA vs es f -> 
    (∀ a ∈ f,a ≠ s2z.heap.objs.size) -> Rps c.mg hB vs es f:=by
   rintro hA hB vs es f ⟨oI,TI,e1,e2,e3,e4,e5⟩ ⟨ys',oD,d1,d2,d3⟩ ⟨m',hns'⟩ hk hr hf
   refine hr.keepOn (W:=fun b=>b = s2z.heap.objs.size \/ b = I) ?_ ?_ ?_
   ·intro b o hb e nd
    exact (hk b o (qMB (zB hns' e nd) (⟨fun q=>hb (.inl q),fun q=>hb (.inr q)⟩:b ≠ s2z.heap.objs.size /\ b ≠ I).1 (⟨fun q=>hb (.inl q),fun q=>hb (.inr q)⟩:b ≠ s2z.heap.objs.size /\ b ≠ I).2) e).1 nd
   ·rintro b o (q | q) e
    ·rw [q,d1] at e;rw [<- vAy e];exact ⟨_,d2,by decide⟩
    ·rw [q,e1] at e;rw [<- vAy e];exact ⟨_,e3,e5⟩
   ·rintro a ha (q | q)
    ·exact hf a ha q
    ·obtain ⟨o,vs',k',a1,a2,_⟩:=hr.fp_list a ha
     rw [q,e1] at a1;obtain rfl:=vAy a1
     rw [e3] at a2;cases a2;exact e4 rfl
  refine codeAny_compLoop_tests
   (fun k s'=>CInv c s W fp I s2z.heap.objs.size H2.objs.size h1z (fun a=>a ≠ s2z.heap.objs.size /\ (s.heap.get? a = none \/ (∃ j ∈ occI ++ cap,a ∈ (vf j).2) \/ Fz c a)) (zR fE fC cap Z) xs total s' k) ?_ (xs.length + 1) ?_
  ·intro k s' ci
   refine nn fun hN=>?_
   obtain ⟨hsame,hgd,hWi,hfpd,hys,hyd,hrs,hcd,htot,hdl,hns,hkp,hfpS,hi,hk⟩:=ci
   rename_i i ys ds rest fpS m'
   by_cases hlt:i < xs.length
   ·refine hN <| wpAny_with_toks hgd.2 (hW.item i _ _ _ hlt hWi fun v h2z tk2z hPv hW2 hk2z ht2=>?_)
    dsimp only at ht2
    have hDw:s2z.heap.objs.size ∉ [I]:=fun q=>hI2.1.symm (vBH.mp q)
    have hns2:h2z.Ns H2.objs.size m':=hns.at' fun o e=>hk2z _ o (fun q=>hI2.2.symm (vBH.mp q):H2.objs.size ∉ [I]) e
    have hkindx:(compEnvC scope (kh env.cells scope.names []) H2.objs.size env).kindOf x = some .local:=by
     exact lookup_relabel_local k3
    refine vCU (wpAny_storeName_local hkindx hns2 (fun h3z hn3 hs3=>?_) (by simp [compEnvC,relabel,k1]))
    refine nn fun hN=>?_
    dsimp only at hn3 hs3
    have hk3:KpB [H2.objs.size,s2z.heap.objs.size,I] s'.heap h3z:=(KpB.of_but fun b o hb e=>hk2z b o (fun q=>hb (vBC _ (vBC _ q))) e).trans (KpB.of_but fun b o hb e=>hs3.extBut b o (fun q=>hb (by rw [q];exact vBA ..)) e)
    have hk1:=hkp.trans hk3
    have hgd3:Gd c { s' with heap:=h3z,toks:=tk2z + 1 }:=by
     refine ⟨fun b o e=>?_,by exact vBr _⟩
     exact hs3.extBut b o (fun q=>by have q':b = H2.objs.size:=q;rw [q',hbn _ hCn] at e;exact nos e) (hk2z b o (fun q=>by have q':=vBH.mp q;rw [q',hbn _ hIf] at e;exact nos e) (hgd.1 b o e))
    obtain ⟨d,hd,hdr⟩:=qCV hlt
    obtain ⟨g,rg,hg⟩:=hit i v d hPv hd
    have hfA3:∀ b ∈ fpA,b ≠ H2.objs.size /\ b ≠ s2z.heap.objs.size /\ b ≠ I:=fun b hb=>by
     obtain ⟨o,e,ecls⟩:=hfA b hb
     refine ⟨(below b (vBb e)).1,(below b (vBb e)).2,fun q=>?_⟩
     obtain ⟨o',T,e',_,eT,ec',_⟩:=(hWI 0 _ h0)
     rw [q,e'] at e;obtain rfl:=vAy e
     rw [eT] at ecls;cases ecls
     exact ec' rfl
    have rg3:Rp c.mg h3z v d g:=by
     refine Rp.keepOn (W:=fun b=>b = I) (h:=s2z.heap) ?_ ?_ rg (fun a ha=>(hfA3 a (hg a ha)).2.2)
     ·intro b o hb e nd
      exact (hk1 b o (qMB (below b (vBb e)).1 (below b (vBb e)).2 hb) (old b o e)).1 nd
     ·intro b o q e
      obtain ⟨o',T,e',_,eT,_,ec'⟩:=(hWI 0 _ h0)
      rw [q,e'] at e;rw [<- vAy e]
      exact ⟨T,eT,ec'⟩
    have hRd3:Rd c (compEnvC scope (kh env.cells scope.names []) H2.objs.size env) (jBA nm x cap) (YL cap Z d) (fun j=>match (YL cap Z d)[j]? with | some (some _)=>(if j = 0 then (v,g) else vf (cap.getD (j - 1) 0)) | _=>(.none,[])) { s' with heap:=h3z,toks:=tk2z + 1 }:=by
     refine ⟨hgd3,⟨_,hn3⟩,hbn _ hCn,by simp [compEnvC,relabel,k1],hRd.gl,hRd.bl,fun y hy=>?_,fun j e lv hj=>?_⟩
     ·have h1:=jBF (sc:=env.scope) k4 (hy:(relabel scope env).names.lookup y = some .cell)
      obtain ⟨a,ha⟩:=hRd.cl y (by rw [hsc];exact (k6 _ (jj h1) rfl))
      exact ⟨a,zV ha _ _ (.inl rfl) (.inl (jj h1))⟩
     ·cases j with
      | zero =>
       refine nn fun gN=>?_
       simp only [YL,List.getElem?_cons_zero,Option.some.injEq,Prod.mk.injEq] at hj
       obtain ⟨rfl,rfl⟩:=hj
       refine gN ?_
       exact ⟨x,rfl,⟨k8,k9,.inl ⟨hkindx,_,hn3,by simp [YL]⟩⟩,by simpa [YL] using rg3⟩
      | succ j =>
       refine nn fun gN=>?_
       have hj0:=hj
       simp only [YL,List.getElem?_cons_succ,vBg,vBD] at hj
       obtain ⟨i0,h1,h2⟩:=hj
       have h3:Z[i0]? = some (some (e,lv)):=by
        cases q:Z[i0]? with
        | none=>rw [q] at h2;exact nos h2
        | some z=>rw [q] at h2;rw [show z = some (e,lv) from h2]
       obtain ⟨y,h4,h5,h6⟩:=hRd.var i0 e lv h3
       obtain ⟨y',h7,h8,h9,h10,h11⟩:=k7 i0 (vBT h1)
       refine gN ?_
       rw [h4] at h7;obtain rfl:=vAy h7
       refine ⟨y,?_,?_,?_⟩
       ·simp only [jBA,List.getElem?_cons_succ,vBg,h1,Option.map_some,vBJ,h4,Option.getD_some]
       ·refine nn fun gN=>?_
        obtain ⟨_,_,h5⟩:=h5
        refine gN ?_
        rcases h5 with ⟨q,_⟩ | ⟨_,cl,hcl,o,ho,hod⟩
        ·rw [(by unfold Env.kindOf;rw [hsc];exact h9:env.kindOf y = some .cell)] at q;cases q
        ·refine ⟨h10,h11,.inr ⟨.inl ?_,cl,zV hcl _ _ (.inl rfl) (.inl (jj h8)),o,?_,?_⟩⟩
         ·exact xq (sc:=env.scope) (by rw [hsc];exact k2) h8 (by rw [hsc];exact h9)
         ·exact (hkS _ hk1).keep hn ho (Jd hod)
         ·simpa [hj0,h1] using hod
       ·simpa [hj0,h1] using ((hkS _ hk1).rp hn h6)
    rw [hdr] at hcd
    have hD3:h3z.IsList s2z.heap.objs.size ys:=by
     obtain ⟨o,e,r⟩:=hys
     exact ⟨o,hs3.extBut _ o hDC (hk2z _ o hDw e),r⟩
    have hDd3:Nd h3z s2z.heap.objs.size:=by
     obtain ⟨o,vs',k',e,r,r'⟩:=hyd
     exact ⟨o,vs',k',hs3.extBut _ o hDC (hk2z _ o hDw e),r,r'⟩
    have hIh3:ItObj h3z I:=by
     obtain ⟨o,T,e1,e2,e3,e4,e5⟩:=(hWI (i + 1) _ hW2)
     exact ⟨o,T,hs3.extBut I o hI2.2 e1,e2,e3,e4,e5⟩
    have hrs3:∀ hB:Heap,KpB [H2.objs.size,s2z.heap.objs.size,I] s'.heap hB -> Rps c.mg hB ys.toList ds fpS:=fun hB hk =>
     hrsk _ _ _ _ _ (hWI i _ hWi) ⟨_,hys⟩ ⟨_,hns⟩ hk hrs fun a ha=>(hfpS a ha).1
    have hk23:KpB [H2.objs.size,s2z.heap.objs.size] h2z h3z:=KpB.of_but fun b o hb e=>hs3.extBut b o (fun q=>hb (by rw [q];exact vBA ..)) e
    have hfp_2:∀ b ∈ fp,b ≠ I -> ∃ o,h2z.get? b = some o /\ JW o:=fun b hb q=>by
     obtain ⟨o,e,nd⟩:=hfpd b hb q
     exact ⟨o,hk2z b o (fun z=>q (vBH.mp z)) e,nd⟩
    rcases jVB hcd with ⟨hfc,hcd⟩ | ⟨dE,lE,rest',hfc,hfe,hcd',hre⟩
    ·refine hN <| hT A l _ _ _ _ false _ _ (by rw [<- hsc];rfl:(compEnvC scope (kh env.cells scope.names []) H2.objs.size env).scope = Zg scope sc) (hR.keep (hkS _ hk1) hn:Room c hm n A l h3z) hRd3 hfc fun s4z st4z=>?_
     have kp4:Kp H2.objs.size h3z s4z.heap:=st4z.kp
     refine Exists.intro (xs.length + 1 - (i + 1)) (And.intro (by rw [hk];exact Nat.sub_lt_sub_left (Nat.lt_succ_of_lt hlt) (vCd i)) (CInv.mk (ys:=ys) ((hsame.trans ⟨_,_,rfl⟩:SameS s { s' with heap:=h3z,toks:=tk2z + 1 }).trans st4z.same) st4z.bs ?_ ?_ ?_ ?_ ?_ hcd htot (Nat.le_succ_of_le hdl) (kp4.ns _ hn3) (hk1.trans (KpB.of_kp kp4 (vBA ..))) hfpS hlt rfl))
     ·exact hframe _ _ _ hW2 (hk23.trans (KpB.of_kp kp4 (vBA ..))) hfp_2
     ·exact hfpk _ _ (KpB.of_kp kp4 (vBA ..)) (hfpk _ _ hk3 hfpd)
     ·exact jPC kp4 hDC hD3
     ·exact qJQ kp4 hDC hDd3
     ·exact hrs3 _ (hk3.trans (KpB.of_kp kp4 (vBA ..)))
    ·refine hN <| hT A l _ _ _ _ true _ _ (by rw [<- hsc];rfl:(compEnvC scope (kh env.cells scope.names []) H2.objs.size env).scope = Zg scope sc) (hR.keep (hkS _ hk1) hn:Room c hm n A l h3z) hRd3 hfc fun s4z st4z=>?_
     have kp4:Kp H2.objs.size h3z s4z.heap:=st4z.kp
     refine hEl.ok (by rw [<- hsc];rfl:(compEnvC scope (kh env.cells scope.names []) H2.objs.size env).scope = Zg scope sc) ((hR.keep (hkS _ hk1) hn:Room c hm n A l h3z).keep kp4 hn3) (hRd3.keep st4z) hfe fun y gE s5 st5z rE tE lvE=>?_
     have kp45:=kp4.trans (st5z.kp:Kp H2.objs.size s4z.heap s5.heap)
     have hI5:ItObj s5.heap I:=by
      obtain ⟨o,T,e1,e2,e3,e4,e5⟩:=hIh3
      exact ⟨o,T,kp45.obj _ o hI2.2 e1 e2,e2,e3,e4,e5⟩
     refine Z7 (jPC kp45 hDC hD3) (qJQ kp45 hDC hDd3) (fun h6z hl6z hd6z hs6z=>?_) (by unfold lim at hlen;unfold sizeLine;exact vAz (vBd (vCP (vBh (vAz (vBs (by simpa using hrs.length:ys.size = ds.length)) hdl) hlt) hlen)) (by decide):ys.size <= sizeLine)
     have hk6:KpB [H2.objs.size,s2z.heap.objs.size,I] s5.heap h6z:=KpB.of_but fun b o hb e=>hs6z.extBut b o (fun q=>hb (q ▸ vBC _ (vBA ..))) e
     have hgE:∀ a ∈ gE,a ≠ s2z.heap.objs.size /\ (s.heap.get? a = none \/ (∃ j ∈ occI ++ cap,a ∈ (vf j).2) \/ Fz c a):=by
      intro a ha
      rcases tE a ha with q | ⟨j,hj,q⟩ | q
      ·refine ⟨fun q'=>?_,.inl ?_⟩
       ·obtain ⟨o,e,hc',q2,hd'⟩:=hD3
        rw [q',(kp4.obj _ o hDC e (JK hd'))] at q;exact son q
       ·exact (hkS _ (hk1.trans (KpB.of_kp kp4 (vBA ..)))).gone hn q
      ·cases j with
       | zero =>
        have:=hg a (by simpa [YL] using q:a ∈ g)
        refine ⟨(hfA3 a this).2.1,?_⟩
        exact (tA a this).imp id fun q=>q.imp (fun ⟨j,h1,h2⟩=>⟨j,vBU _ h1,h2⟩) id
       | succ j =>
        dsimp only at q
        split at q
        ·refine nn fun gN=>?_
         rename_i z hz
         simp only [YL,List.getElem?_cons_succ,vBg,vBD] at hz
         obtain ⟨i0,z1,z2⟩:=hz
         have z3:Z[i0]? = some (some z):=by
          cases w:Z[i0]? with
          | none=>rw [w] at z2;exact nos z2
          | some z'=>rw [w] at z2;rw [show z' = some z from z2]
         obtain ⟨_,_,_,z4⟩:=hRd.var i0 z.1 z.2 z3
         obtain ⟨o,_,_,z5,_⟩:=z4.fp_list a (by simpa [z1] using q:a ∈ (vf i0).2)
         refine gN ?_
         exact ⟨fun w=>by (rw [w,hDn] at z5;exact nos z5),.inr (.inl ⟨i0,vBQ _ (vBT z1),(by simpa [z1] using q:a ∈ (vf i0).2)⟩)⟩
        ·cases q
      ·exact ⟨fun w=>q.1.elim fun _ e=>by (rw [w,hbn _ hDn] at e;exact nos e),.inr (.inr q)⟩
     refine ⟨xs.length + 1 - (i + 1),by rw [hk];exact Nat.sub_lt_sub_left (Nat.lt_succ_of_lt hlt) (vCd i),(CInv.mk (ys:=ys.push y) (ds:=ds ++ [dE]) (fpS:=fpS ++ gE) (((hsame.trans ⟨_,_,rfl⟩:SameS s { s' with heap:=h3z,toks:=tk2z + 1 }).trans (st4z.same)).trans (SameS.trans st5z.same ⟨_,_,rfl⟩)) ⟨fun b o e=>?_,st5z.bs.2⟩ ?_ ?_ hl6z hd6z ?_ hcd' (by rw [htot,hre,vCC];rfl) (by rw [vBO];exact vBl hdl) ((kp45.ns _ hn3).sameBut hs6z (Ne.symm hDC)) (hk1.trans ((KpB.of_kp kp45 (vBA ..)).trans hk6)) ?_ hlt rfl)⟩
     ·exact hs6z.extBut b o (fun q=>by rw [q,hbn _ hDn] at e;exact nos e) (st5z.bs.1 b o e)
     ·exact hframe _ _ _ hW2 (hk23.trans ((KpB.of_kp kp45 (vBA ..)).trans (KpB.of_but fun b o hb e=>hs6z.extBut b o (fun q=>hb (q ▸ vBC _ (vBA ..))) e))) hfp_2
     ·exact hfpk _ _ ((KpB.of_kp kp45 (vBA ..)).trans hk6) (hfpk _ _ hk3 hfpd)
     ·simpa using (hrs3 _ ((hk3.trans (KpB.of_kp kp45 (vBA ..)):KpB [H2.objs.size,s2z.heap.objs.size,I] s'.heap s5.heap).trans hk6)).append (hrsk _ _ [y] [dE] gE hI5 ⟨_,(jPC kp45 hDC hD3)⟩ ⟨_,(kp45.ns _ hn3)⟩ hk6 (Rps.one rE) fun a ha=>(hgE a ha).1)
     ·intro a ha
      rcases vBK.mp ha with ha | ha
      ·exact hfpS a ha
      ·exact hgE a ha
   ·have hin:i = xs.length:=by exact vCI hi (vBy hlt)
    subst hin
    refine hN <| wpAny_with_toks hgd.2 (hW.done _ _ _ hWi fun h2z tk2z hk2z ht2=>nn fun hN=>?_)
    rw [List.drop_length] at hcd
    obtain rfl:=vAy hcd
    rw [List.append_nil] at htot
    subst htot
    have hkE:KpB [H2.objs.size,s2z.heap.objs.size,I] s'.heap h2z:=KpB.of_but fun b o hb e=>hk2z b o (fun q=>hb (vBC _ (vBC _ q))) e
    have hDw:s2z.heap.objs.size ∉ [I]:=fun q=>hI2.1.symm (vBH.mp q)
    have rE:=hrsk _ _ _ _ _ (hWI _ _ hWi) ⟨_,hys⟩ ⟨_,hns⟩ hkE hrs fun a ha=>(hfpS a ha).1
    obtain ⟨o,e1,e2,q,e3⟩:=hys
    have hndE:Nd h2z s2z.heap.objs.size:=by
     obtain ⟨o,vs',k',e,r,r'⟩:=hyd
     exact ⟨o,vs',k',hk2z _ o hDw e,r,r'⟩
    refine hN <| hQ _ _ _ m' _ fpS hr.symm ⟨hsame.trans ⟨_,_,rfl⟩,hkS _ (hkp.trans hkE),fun b o e=>hk2z b o (fun q=>by rw [(vBH.mp q),hbn _ hIf] at e;exact nos e) (hgd.1 b o e),ht2⟩
     (.list (hk2z _ o hDw e1) e2 e3 rE) ?_ ?_ (hns.at' fun o e=>hk2z _ o (fun q=>hI2.2.symm (vBH.mp q):H2.objs.size ∉ [I]) e) hCn (hbn _ hCn)
    ·intro a ha
     rcases vCu.mp ha with hqq | ha
     ·rw [hqq];exact .inl hDn
     ·exact (hfpS a ha).2
    ·unfold vg
     split
     ·rename_i hfl
      rw [rE.flat_fp hfl]
      exact Lv.one hDn hndE
     ·exact ⟨fun _ b t e=>by cases e;exact ⟨hDn,(fun hm=>(hfpS _ hm).1 rfl:s2z.heap.objs.size ∉ fpS),hndE⟩,fun h=>absurd h (by decide)⟩
  ·refine CInv.mk (i:=0) (ys:=#[]) (ds:=[]) (fpS:=[]) (SameS.trans st2z.same ⟨_,_,rfl⟩) ⟨fun b o e=>old b o (st2z.bs.1 b o e),by exact st2z.bs.2⟩ (hW.frame _ _ _ h0 fun b _ o e=>old b o e:W 0 h1z) (fun b hb q=>?_) (⟨_,hsb1.extBut _ _ hDC (vBB _ (hH2 ▸ vBL _ rfl)),rfl,_,rfl⟩:h1z.IsList s2z.heap.objs.size #[]) (⟨_,_,_,hsb1.extBut _ _ hDC (vBB _ (hH2 ▸ vBL _ rfl)),rfl,rfl⟩:Nd h1z s2z.heap.objs.size) .nil hD rfl (vBI _) hns1 (KpB.refl _ _) (fun _ h=>nomatch h) (vBz _) rfl
   obtain ⟨o,e,nd⟩:=hfp b hb q
   exact ⟨o,old b o e,nd⟩
 exact codeAny_compStart_list loop (hW.self 0 _ _ _ (hW.frame _ _ _ h0 fun b _ o e=>old b o e:W 0 h1z) loop)
theorem let_go {s:Shared} {m:Str -> Option Value} (hn:s.heap.Ns L m) (st:St c L s s') (hns:s'.heap.Ns C m') (hC:s.heap.get? C = none) (hCb:c.base.get? C = none) (hs':Heap.SameBut C s'.heap h') :
  St c L s { s' with heap:=h' } /\ (∀ {v d fp},Rp c.mg s'.heap v d fp -> Rp c.mg h' v d fp) /\ ∀ a,Nd s'.heap a -> Nd h' a:=by
 refine ⟨⟨?_,st.kp.thenB hn (KpB.of_but fun b o hb e=>hs'.extBut b o (by simpa using hb) e:KpB [C] s'.heap h') (by simpa using hC),?_,st.bs.2⟩,fun rp=>rp.keep fun b o e nd=>hs'.extBut b o (zB hns e nd) e,fun a ⟨o,vs,k,h1,h2,h3⟩=>⟨o,vs,k,hs'.extBut a o (zB hns h1 (JK h2)) h1,h2,h3⟩⟩
 ·obtain ⟨hh,tk,q⟩:=st.same;exact ⟨h',s'.toks,by rw [q]⟩
 ·intro b o e;exact hs'.extBut b o (fun q=>by rw [q,hCb] at e;exact nos e) (st.bs.1 b o e)
theorem Yc {iter:Expr} {ifs:List Expr} (cap:List Nat)
  (hI:DenIt c hm n sc nm iter occI fI) (hT:qLB c hm n (Zg scope sc) (jBA nm x cap) ifs fC) (hEl:Den c hm n (Zg scope sc) (jBA nm x cap) elt occE fE)
  (hok:autoParam (jMS sc scope nm x cap = true) yK) (hfs:autoParam (∀ env v,foldedSetIterable iter env v = pure v) yN) :
  Den c hm n sc nm (.ListComp elt [⟨.Name x px,iter,ifs,0⟩] scope pos) (occI ++ cap) (fun Z=>JR (fI Z) (jN fE fC cap Z)):=by
 intro A l env Z vf s r Q E hsc hR hRd hf hQ hE
 refine nn fun gN=>?_
 obtain ⟨m,hn⟩:=hRd.ns
 obtain ⟨k1,k2,k3,k4,k5,k6,k7,k8,k9⟩:=z9 hok
 refine gN ?_
 rw [eval_ListComp]
 refine wpAny_comprehension_free (use:=none) rfl (hfs env) (zU fun y hy q=>hRd.cl y.1 (by rw [hsc];exact k6 y hy q)) k1 k5 ?_
 refine jEE hok hI hT hEl hsc hR hRd hf (fun Da C s' m' ds fp e st rp tr lv hns hC hCb=>?_) hE
 refine ⟨m',hns,fun h' hs'=>?_⟩
 exact hQ _ _ _ _ _ e (let_go hn st hns hC hCb hs').1 ((let_go hn st hns hC hCb hs').2.1 rp) tr (lv.nd (let_go hn st hns hC hCb hs').2.2)
end
theorem Rp.keepM (k:∀ b o,¬ W b -> h.get? b = some o -> JW o -> h'.get? b = some o)
  (kt:∀ b o vs n,W b -> h.get? b = some o -> o.cls = .type "tuple" -> o.data ≠ .seq vs n) (kf:∀ b o vs,W b -> h.get? b = some o -> o.data ≠ .fields vs) {v d fp} (r:Rp X h v d fp) (hw:∀ a ∈ fp,¬ W a):Rp X h' v d fp :=
 (qA k kt (fun b o vs _ w e _=>kf b o vs w e)).1 r hw
theorem Rps.keepM (k:∀ b o,¬ W b -> h.get? b = some o -> JW o -> h'.get? b = some o)
  (kt:∀ b o vs n,W b -> h.get? b = some o -> o.cls = .type "tuple" -> o.data ≠ .seq vs n) (kf:∀ b o vs,W b -> h.get? b = some o -> o.data ≠ .fields vs) {vs ds fp} (r:Rps X h vs ds fp) (hw:∀ a ∈ fp,¬ W a):Rps X h' vs ds fp :=
 (qA k kt (fun b o vs _ w e _=>kf b o vs w e)).2 r hw
def KpP (P:Addr -> Prop) (h h':Heap):Prop:=∀ b o,¬ P b -> h.get? b = some o -> (JW o -> h'.get? b = some o) /\ ∃ sl,h'.get? b = some { o with slots:=sl }
theorem KpP.refl (P:Addr -> Prop) (h:Heap):KpP P h h:=fun _ o _ e=>⟨fun _=>e,o.slots,e⟩
theorem KpP.trans {P Q:Addr -> Prop} (x:KpP P h1z h2z) (y:KpP Q h2z h3z) (hQ:∀ b o,h1z.get? b = some o -> ¬ P b -> ¬ Q b):KpP P h1z h3z:=fun b o hb e=>by
 refine nn fun gN=>?_
 obtain ⟨h1,sl,h2⟩:=x b o hb e
 obtain ⟨h3,sl',h4⟩:=y b _ (hQ b o e hb) h2
 refine gN ?_
 exact ⟨fun nd=>(y b o (hQ b o e hb) (h1 nd)).1 nd,sl',h4⟩
theorem KpP.of_but {P:Addr -> Prop} (k:∀ b o,¬ P b -> h.get? b = some o -> h'.get? b = some o):KpP P h h':=fun b o hb e=>⟨fun _=>k b o hb e,o.slots,k b o hb e⟩
theorem KpP.of_kp {P:Addr -> Prop} (k:Kp L h h') (hL:P L):KpP P h h':=fun b o hb e =>
 ⟨fun nd=>k.obj b o (fun q=>hb (q ▸ hL)) e nd,k.dct b o (fun q=>hb (q ▸ hL)) e⟩
theorem KpP.gone (k:KpP (fun _=>False) h h') {a:Addr} (e:h'.get? a = none):h.get? a = none:=by
 cases q:h.get? a with
 | none=>rfl
 | some o=>obtain ⟨_,sl,h2⟩:=k a o id q;rw [e] at h2;exact nos h2
def Own (Z:G) (vf:Tb) (b:Addr):Prop :=
 ∃ i d lv,Z[i]? = some (some (d,lv)) /\ ((1 <= lv /\ ∃ t,(vf i).2 = b :: t) \/ (2 <= lv /\ b ∈ (vf i).2))
def Mut (env:Env) (Z:G) (vf:Tb) (b:Addr):Prop:=b = env.locals \/ (∃ x,env.cells.lookup x = some b) \/ Own Z vf b
structure Iv (c:Cx) (h0z:Heap) (f0:List Addr) (env:Env) (nm:List Str) (Z:G) (vf:Tb) (s:Shared):Prop where
 rd:Rd c env nm Z vf s
 kb:KpP (fun _=>False) h0z s.heap
 nl:h0z.get? env.locals = none
 ce:∀ x a,env.cells.lookup x = some a -> h0z.get? a = none /\ ∃ v,s.heap.IsCell a v
 cd:∀ x y a,env.cells.lookup x = some a -> env.cells.lookup y = some a -> x = y
 nd:nm.Nodup
 al:∀ i a,a ∈ (vf i).2 -> FpL s.heap a
 org:∀ i a,a ∈ (vf i).2 -> h0z.get? a = none \/ a ∈ f0 \/ Fz c a
 own1:∀ i d lv,Z[i]? = some (some (d,lv)) -> 1 <= lv -> ∀ a t,(vf i).2 = a :: t -> h0z.get? a = none /\ a ∉ t /\ Nd s.heap a /\ ∀ j,j ≠ i -> a ∉ (vf j).2
 own2:∀ i d lv,Z[i]? = some (some (d,lv)) -> 2 <= lv -> (∀ a ∈ (vf i).2,h0z.get? a = none /\ Nd s.heap a /\ ∀ j,j ≠ i -> a ∉ (vf j).2) /\ (vf i).2.Nodup
 bh:∀ b o,c.base.get? b = some o -> h0z.get? b = some o
structure Stp (c:Cx) (h0z:Heap) (f0:List Addr) (env:Env) (nm:List Str) (Z:G) (vf:Tb) (s:Shared) (Z':G) (vf':Tb) (s':Shared):Prop where
 iv:Iv c h0z f0 env nm Z' vf' s'
 same:∃ h tk,s' = { s with heap:=h,toks:=tk }
 kp:KpP (Mut env Z vf) s.heap s'.heap
 gr:∀ b,Own Z' vf' b -> Own Z vf b \/ s.heap.get? b = none
 ex:∀ b,s'.heap.get? b = none -> s.heap.get? b = none
section
variable {n:Nat} {s:Shared}
theorem Own.lst (iv:Iv c h0z f0 env nm Z vf s) (h:Own Z vf b):FpL s.heap b /\ h0z.get? b = none:=by
 obtain ⟨i,d,lv,h1,⟨h2,t,h3⟩ | ⟨h2,h3⟩⟩:=h
 ·exact ⟨iv.al i b (by rw [h3];exact vBA ..),(iv.own1 i d lv h1 h2 b t h3).1⟩
 ·exact ⟨iv.al i b h3,((iv.own2 i d lv h1 h2).1 b h3).1⟩
theorem Mut.kind (iv:Iv c h0z f0 env nm Z vf s) (h:Mut env Z vf b) (e:s.heap.get? b = some o) :
  (∃ es k,b = env.locals /\ o.data = .dict es k) \/ (∃ v,o.data = .cell v) \/ (Own Z vf b /\ o.cls = .type "list" /\ ∃ vs k,o.data = .seq vs k):=by
 rcases h with rfl | ⟨x,h⟩ | h
 ·refine nn fun gN=>?_
  obtain ⟨m,o',es,ep,h1,h2,_⟩:=iv.rd.ns
  refine gN ?_
  clear gN
  rw [e] at h1;obtain rfl:=vAy h1
  exact .inl ⟨es,ep,rfl,h2⟩
 ·refine nn fun gN=>?_
  obtain ⟨_,v,o',h1,h2⟩:=iv.ce x b h
  refine gN ?_
  clear gN
  rw [e] at h1;obtain rfl:=vAy h1
  exact .inr (.inl ⟨v,h2⟩)
 ·refine nn fun gN=>?_
  obtain ⟨⟨o',vs,k,h1,h2,h3⟩,_⟩:=h.lst iv
  refine gN ?_
  clear gN
  rw [e] at h1;obtain rfl:=vAy h1
  exact .inr (.inr ⟨h,h2,vs,k,h3⟩)
theorem Mut.new (iv:Iv c h0z f0 env nm Z vf s) (h:Mut env Z vf b):h0z.get? b = none:=by
 rcases h with rfl | ⟨x,h⟩ | h
 ·exact iv.nl
 ·exact (iv.ce x b h).1
 ·exact (h.lst iv).2
theorem Iv.kb_step (iv:Iv c h0z f0 env nm Z vf s) (k:KpP (Mut env Z vf) s.heap h'):KpP (fun _=>False) h0z h' :=
 iv.kb.trans k fun b o e _ hM=>by rw [hM.new iv] at e;exact nos e
theorem Iv.fresh (iv:Iv c h0z f0 env nm Z vf s) {a:Addr} (e:s.heap.get? a = none):h0z.get? a = none:=iv.kb.gone e
theorem Iv.nb (iv:Iv c h0z f0 env nm Z vf s) {a:Addr} (e:h0z.get? a = none):c.base.get? a = none:=by
 cases q:c.base.get? a with
 | none=>rfl
 | some o=>have:=iv.bh a o q;rw [e] at this;exact nos this
theorem Room.stp (hR:Room c hm n A l s.heap) (iv:Iv c h0z f0 env nm Z vf s) (hns:∃ m,h'.Ns env.locals m) (k:KpP (Mut env Z vf) s.heap h'):Room c hm n A l h':=by
 refine ⟨hR.fr,fun e he=>?_,hR.depth,hR.units,?_⟩
 ·obtain ⟨h1,L',o,es,n',h2,h3,h4,h5⟩:=hR.ok e he
  by_cases hL:L' = env.locals
  ·subst hL
   obtain ⟨m,o',es',ep,h6,h7,_⟩:=hns
   exact ⟨h1,_,o',es',ep,h2,h3,h6,h7⟩
  ·have hM:¬ Mut env Z vf L':=fun hM=>by
    rcases hM.kind iv h4 with ⟨_,_,q,_⟩ | ⟨v,q⟩ | ⟨_,_,_,_,q⟩
    ·exact hL q
    ·rw [h5] at q;cases q
    ·rw [h5] at q;cases q
   obtain ⟨_,sl,h6⟩:=k L' o hM h4
   exact ⟨h1,_,_,es,n',h2,h3,h6,h5⟩
 ·cases hm with
  | false=>exact hR.hm
  | true =>
   obtain ⟨y,o,vs,h1,h2,h3,h4⟩:=hR.hm
   refine ⟨y,o,vs,h1,(k y o (fun hM=>?_) h2).1 (JS h3),h3,h4⟩
   rcases hM.kind iv h2 with ⟨_,_,_,q⟩ | ⟨v,q⟩ | ⟨_,_,_,_,q⟩ <;> (rw [h3] at q;cases q)
theorem Stp.room (iv:Iv c h0z f0 env nm Z vf s) (st:Stp c h0z f0 env nm Z vf s Z' vf' s') (hR:Room c hm n A l s.heap):Room c hm n A l s'.heap:=hR.stp iv st.iv.rd.ns st.kp
theorem Stp.trans (x:Stp c h0z f0 env nm Z vf s Z' vf' s') (y:Stp c h0z f0 env nm Z' vf' s' Z'' vf'' s''):Stp c h0z f0 env nm Z vf s Z'' vf'' s'':=by
 refine nn fun gN=>?_
 obtain ⟨h,tk,e⟩:=x.same
 obtain ⟨h',tk',e'⟩:=y.same
 refine gN ?_
 clear gN
 refine ⟨y.iv,⟨h',tk',by rw [e',e]⟩,x.kp.trans y.kp fun b o q hP hM=>?_,fun b hb=>?_,fun b hb=>?_⟩
 ·rcases hM with rfl | hM | hM
  ·exact hP (.inl rfl)
  ·exact hP (.inr (.inl hM))
  ·rcases x.gr b hM with w | w
   ·exact hP (.inr (.inr w))
   ·rw [q] at w;cases w
 ·rcases y.gr b hb with w | w
  ·exact x.gr b w
  ·exact .inr (x.ex b w)
 ·exact x.ex b (y.ex b hb)
theorem Iv.keep (iv:Iv c h0z f0 env nm Z vf s) (st:St c env.locals s s'):Iv c h0z f0 env nm Z vf s':=by
 obtain ⟨m,hn⟩:=iv.rd.ns
 refine ⟨iv.rd.keep st,iv.kb_step (KpP.of_kp st.kp (.inl rfl)),iv.nl,fun x a e=>?_,iv.cd,iv.nd,fun i a ha=>?_,iv.org,fun i d lv e q a t r=>?_,fun i d lv e q=>?_,iv.bh⟩
 ·obtain ⟨h1,v,o,h2,h3⟩:=iv.ce x a e
  exact ⟨h1,v,o,st.kp.keep hn h2 (Jd h3),h3⟩
 ·obtain ⟨o,vs,k,h1,h2,h3⟩:=iv.al i a ha
  exact ⟨o,vs,k,st.kp.keep hn h1 (JK h3),h2,h3⟩
 ·refine nn fun gN=>?_
  obtain ⟨h1,h2,h3,h4⟩:=iv.own1 i d lv e q a t r
  refine gN ?_
  clear gN
  exact ⟨h1,h2,h3.keep st.kp hn,h4⟩
 ·obtain ⟨h1,h2⟩:=iv.own2 i d lv e q
  exact ⟨fun a ha=>⟨(h1 a ha).1,(h1 a ha).2.1.keep st.kp hn,(h1 a ha).2.2⟩,h2⟩
theorem Iv.step (iv:Iv c h0z f0 env nm Z vf s) (st:St c env.locals s s'):Stp c h0z f0 env nm Z vf s Z vf s':=by
 obtain ⟨m,hn⟩:=iv.rd.ns
 exact ⟨iv.keep st,st.same,KpP.of_kp st.kp (.inl rfl),fun b hb=>.inl hb,fun b hb=>st.kp.gone hn hb⟩
def Wk (Z' Z:G):Prop:=∀ (j:Nat) (d:D) (lv:Nat),Z'[j]? = some (some (d,lv)) -> ∃ lv',lv <= lv' /\ Z[j]? = some (some (d,lv'))
theorem sng (e:(Z.set i none)[j]? = some (some (d,lv))):i ≠ j /\ Z[j]? = some (some (d,lv)):=by
 rw [vCK] at e
 split at e
 ·split at e <;> cases e
 ·rename_i q;exact ⟨q,e⟩
theorem jHI (i:Nat) (Z:G):Wk (Z.set i none) Z:=fun j d lv e=>⟨lv,vBI _,(sng e).2⟩
theorem Own.wk (h:Wk Z' Z) (o:Own Z' vf b):Own Z vf b:=by
 obtain ⟨i,d,lv,h1,h2⟩:=o
 obtain ⟨lv',h3,h4⟩:=h i d lv h1
 exact ⟨i,d,lv',h4,h2.imp (fun ⟨q,r⟩=>⟨vAz q h3,r⟩) fun ⟨q,r⟩=>⟨vAz q h3,r⟩⟩
theorem Iv.wk (iv:Iv c h0z f0 env nm Z vf s) (h:Wk Z' Z):Iv c h0z f0 env nm Z' vf s:=by
 refine ⟨⟨iv.rd.bs,iv.rd.ns,iv.rd.nb,iv.rd.fn,iv.rd.gl,iv.rd.bl,iv.rd.cl,fun i d lv e=>?_⟩,iv.kb,iv.nl,iv.ce,iv.cd,iv.nd,iv.al,iv.org,fun i d lv e h1=>?_,fun i d lv e h1=>?_,iv.bh⟩
 ·obtain ⟨lv',_,h4⟩:=h i d lv e
  exact iv.rd.var i d lv' h4
 ·obtain ⟨lv',h3,h4⟩:=h i d lv e
  exact iv.own1 i d lv' h4 (vAz h1 h3)
 ·obtain ⟨lv',h3,h4⟩:=h i d lv e
  exact iv.own2 i d lv' h4 (vAz h1 h3)
theorem Iv.wkS (iv:Iv c h0z f0 env nm Z vf s) (h:Wk Z' Z):Stp c h0z f0 env nm Z vf s Z' vf s :=
 ⟨iv.wk h,⟨_,_,rfl⟩,KpP.refl _ _,fun _ hb=>.inl (hb.wk h),fun _ hb=>hb⟩
theorem Iv.updI (iv:Iv c h0z f0 env nm Z vf s) (hgd:Gd c s') (hns:∃ m,s'.heap.Ns env.locals m)
  (hce:∀ x a,env.cells.lookup x = some a -> ∃ v,s'.heap.IsCell a v) (kp:KpP (Mut env Z vf) s.heap s'.heap) 
  (hal:∀ j a,a ∈ (vf j).2 -> FpL s'.heap a)
  (Z':G) (i:Nat) {v:Value} 
  (hG:∀ j d' lv',Z'[j]? = some (some (d',lv')) -> (j = i /\ d' = d /\ lv' = lv) \/ (j ≠ i /\ ∃ lv'',lv' <= lv'' /\ Z[j]? = some (some (d',lv''))))
  (hoth:∀ j d' lv',j ≠ i -> Z'[j]? = some (some (d',lv')) -> ∃ y,nm[j]? = some y /\ Bd env s'.heap y (vf j).1 /\ Rp c.mg s'.heap (vf j).1 d' (vf j).2)
  (hi:∃ x,nm[i]? = some x /\ Bd env s'.heap x v) (hrp:Rp c.mg s'.heap v d fp) (horg:∀ a ∈ fp,h0z.get? a = none \/ a ∈ f0 \/ Fz c a)
  (ho1:1 <= lv -> ∀ a t,fp = a :: t -> h0z.get? a = none /\ a ∉ t /\ Nd s'.heap a /\ ∀ j,j ≠ i -> a ∉ (vf j).2)
  (ho2:2 <= lv -> (∀ a ∈ fp,h0z.get? a = none /\ Nd s'.heap a /\ ∀ j,j ≠ i -> a ∉ (vf j).2) /\ fp.Nodup) (hnd:∀ a,Nd s.heap a -> Nd s'.heap a)
  (hx:∀ b,Own Z vf b -> ∀ j d' lv',j ≠ i -> Z'[j]? = some (some (d',lv')) -> ((1 <= lv' /\ ∃ t,(vf j).2 = b :: t) \/ (2 <= lv' /\ b ∈ (vf j).2)) -> b ∉ fp) :
  Iv c h0z f0 env nm Z' (fun j=>if j = i then (v,fp) else vf j) s':=by
 have hown:∀ j d' lv' b,j ≠ i -> Z'[j]? = some (some (d',lv')) -> ((1 <= lv' /\ ∃ t,(vf j).2 = b :: t) \/ (2 <= lv' /\ b ∈ (vf j).2)) -> Own Z vf b:=by
  intro j d' lv' b hj e h
  rcases hG j d' lv' e with ⟨q,_⟩ | ⟨_,lv'',h1,h2⟩
  ·exact absurd q hj
  ·exact ⟨j,d',lv'',h2,h.imp (fun ⟨q,r⟩=>⟨vAz q h1,r⟩) fun ⟨q,r⟩=>⟨vAz q h1,r⟩⟩
 refine ⟨⟨hgd,hns,iv.rd.nb,iv.rd.fn,iv.rd.gl,iv.rd.bl,iv.rd.cl,fun j d' lv' e=>?_⟩,iv.kb_step kp,iv.nl,fun x a e=>⟨(iv.ce x a e).1,hce x a e⟩,iv.cd,iv.nd,fun j a ha=>?_,fun j a ha=>?_,fun j d' lv' e h1 a t ht=>?_,fun j d' lv' e h2=>?_,iv.bh⟩
 ·by_cases hj:j = i
  ·subst hj
   rcases hG j d' lv' e with ⟨_,rfl,rfl⟩ | ⟨q,_⟩
   ·obtain ⟨x,h1,h2⟩:=hi
    simp only [if_true]
    exact ⟨x,h1,h2,hrp⟩
   ·exact absurd rfl q
  ·simp only [if_neg hj];exact hoth j d' lv' hj e
 ·by_cases hj:j = i
  ·obtain rfl:=hj.symm;simp only [if_true] at ha;exact hrp.fp_list a ha
  ·simp only [if_neg hj] at ha;exact hal j a ha
 ·by_cases hj:j = i
  ·obtain rfl:=hj.symm;simp only [if_true] at ha;exact horg a ha
  ·simp only [if_neg hj] at ha;exact iv.org j a ha
 ·by_cases hj:j = i
  ·subst hj
   simp only [if_true] at ht
   rcases hG j d' lv' e with ⟨_,rfl,rfl⟩ | ⟨q,_⟩
   ·refine nn fun gN=>?_
    obtain ⟨w1,w2,w0,w3⟩:=ho1 h1 a t ht
    refine gN ?_
    clear gN
    exact ⟨w1,w2,w0,fun k hk=>by simp only [if_neg hk];exact w3 k hk⟩
   ·exact absurd rfl q
  ·simp only [if_neg hj] at ht
   rcases hG j d' lv' e with ⟨q,_⟩ | ⟨_,lv'',h3,h4⟩
   ·exact absurd q hj
   ·refine nn fun gN=>?_
    obtain ⟨w1,w2,w0,w3⟩:=iv.own1 j d' lv'' h4 (vAz h1 h3) a t ht
    refine gN ?_
    clear gN
    refine ⟨w1,w2,hnd a w0,fun k hk=>?_⟩
    by_cases hki:k = i
    ·simp only [if_pos hki]
     exact hx a (hown j d' lv' a hj e (.inl ⟨h1,t,ht⟩)) j d' lv' hj e (.inl ⟨h1,t,ht⟩)
    ·simp only [if_neg hki];exact w3 k hk
 ·by_cases hj:j = i
  ·subst hj
   simp only [if_true]
   rcases hG j d' lv' e with ⟨_,rfl,rfl⟩ | ⟨q,_⟩
   ·obtain ⟨w1,w2⟩:=ho2 h2
    exact ⟨fun a ha=>⟨(w1 a ha).1,(w1 a ha).2.1,fun k hk=>by simp only [if_neg hk];exact (w1 a ha).2.2 k hk⟩,w2⟩
   ·exact absurd rfl q
  ·simp only [if_neg hj]
   rcases hG j d' lv' e with ⟨q,_⟩ | ⟨_,lv'',h3,h4⟩
   ·exact absurd q hj
   ·obtain ⟨w1,w2⟩:=iv.own2 j d' lv'' h4 (vAz h2 h3)
    refine ⟨fun a ha=>⟨(w1 a ha).1,hnd a (w1 a ha).2.1,fun k hk=>?_⟩,w2⟩
    by_cases hki:k = i
    ·simp only [if_pos hki]
     exact hx a (hown j d' lv' a hj e (.inr ⟨h2,ha⟩)) j d' lv' hj e (.inr ⟨h2,ha⟩)
    ·simp only [if_neg hki];exact (w1 a ha).2.2 k hk
theorem Iv.upd (iv:Iv c h0z f0 env nm Z vf s) (same:∃ h tk,s' = { s with heap:=h,toks:=tk }) (hgd:Gd c s') (hns:∃ m,s'.heap.Ns env.locals m)
  (hce:∀ x a,env.cells.lookup x = some a -> ∃ v,s'.heap.IsCell a v) (kp:KpP (Mut env Z vf) s.heap s'.heap) (hex:∀ b,s'.heap.get? b = none -> s.heap.get? b = none)
  (hal:∀ j a,a ∈ (vf j).2 -> FpL s'.heap a)
  (Z':G) (i:Nat) {v:Value} 
  (hG:∀ j d' lv',Z'[j]? = some (some (d',lv')) -> (j = i /\ d' = d /\ lv' = lv) \/ (j ≠ i /\ ∃ lv'',lv' <= lv'' /\ Z[j]? = some (some (d',lv''))))
  (hoth:∀ j d' lv',j ≠ i -> Z'[j]? = some (some (d',lv')) -> ∃ y,nm[j]? = some y /\ Bd env s'.heap y (vf j).1 /\ Rp c.mg s'.heap (vf j).1 d' (vf j).2)
  (hi:∃ x,nm[i]? = some x /\ Bd env s'.heap x v) (hrp:Rp c.mg s'.heap v d fp) (horg:∀ a ∈ fp,h0z.get? a = none \/ a ∈ f0 \/ Fz c a)
  (ho1:1 <= lv -> ∀ a t,fp = a :: t -> h0z.get? a = none /\ a ∉ t /\ Nd s'.heap a /\ ∀ j,j ≠ i -> a ∉ (vf j).2)
  (ho2:2 <= lv -> (∀ a ∈ fp,h0z.get? a = none /\ Nd s'.heap a /\ ∀ j,j ≠ i -> a ∉ (vf j).2) /\ fp.Nodup) (hnd:∀ a,Nd s.heap a -> Nd s'.heap a)
  (hx:∀ b,Own Z vf b -> ∀ j d' lv',j ≠ i -> Z'[j]? = some (some (d',lv')) -> ((1 <= lv' /\ ∃ t,(vf j).2 = b :: t) \/ (2 <= lv' /\ b ∈ (vf j).2)) -> b ∉ fp)
  (hg1:1 <= lv -> ∀ a t,fp = a :: t -> Own Z vf a \/ s.heap.get? a = none) (hg2:2 <= lv -> ∀ a ∈ fp,Own Z vf a \/ s.heap.get? a = none) :
  Stp c h0z f0 env nm Z vf s Z' (fun j=>if j = i then (v,fp) else vf j) s':=by
 refine ⟨iv.updI hgd hns hce kp hal Z' i hG hoth hi hrp horg ho1 ho2 hnd hx,same,kp,fun b hb=>?_,hex⟩
 obtain ⟨j,d',lv',h1,h2⟩:=hb
 by_cases hj:j = i
 ·subst hj
  simp only [if_true] at h2
  rcases hG j d' lv' h1 with ⟨_,rfl,rfl⟩ | ⟨q,_⟩
  ·rcases h2 with ⟨q1,t,q2⟩ | ⟨q1,q2⟩
   ·exact hg1 q1 b t q2
   ·exact hg2 q1 b q2
  ·exact absurd rfl q
 ·simp only [if_neg hj] at h2
  rcases hG j d' lv' h1 with ⟨q,_⟩ | ⟨_,lv'',h3,h4⟩
  ·exact absurd q hj
  ·exact .inl ⟨j,d',lv'',h4,h2.imp (fun ⟨q,r⟩=>⟨vAz q h3,r⟩) fun ⟨q,r⟩=>⟨vAz q h3,r⟩⟩
noncomputable def JX (occ:List Nat) (Z:G):G:=Z.mapIdx fun j v=>if occ.contains j then v.map (fun p=>(p.1,0)) else v
theorem jF (h:(JX occ Z)[j]? = some (some (d,lv))) :
  ∃ lv',lv <= lv' /\ Z[j]? = some (some (d,lv')) /\ (j ∈ occ -> lv = 0):=by
 unfold JX at h
 rw [List.getElem?_mapIdx] at h
 obtain ⟨v,h1,h2⟩:=vBD.mp h
 split at h2
 ·refine nn fun gN=>?_
  rename_i hc
  obtain ⟨⟨d',lv'⟩,h3,h4⟩:=vBD.mp h2
  cases h4
  refine gN ?_
  clear gN
  exact ⟨lv',vBz _,by rw [h1,h3],fun _=>rfl⟩
 ·rename_i hc
  subst h2
  exact ⟨lv,vBI _,h1,fun hj=>absurd (by simpa using hj) hc⟩
theorem ZE (occ:List Nat) (Z:G):Wk (JX occ Z) Z:=fun j d lv h=>by
 obtain ⟨lv',h1,h2,_⟩:=jF h
 exact ⟨lv',h1,h2⟩
def jGG (occ:List Nat) (i:Nat) (a:D × Nat) (Z:G):G :=
 if a.1.flat then Z.set i (some (a.1,2)) else if 2 <= a.2 then Z.set i (some a) else (JX occ Z).set i (some a)
noncomputable def stK (sc:Scope) (x:Str):Bool:=decide (sc.names.lookup x = some .local) || decide (sc.names.lookup x = some .cell)
noncomputable def jNN (x:Str):Bool:=(x != ("__debug__":Str)) && (x != ("__classdict__":Str))
theorem jSL (h:nm.Nodup) (hi:nm[i]? = some x) (hj:nm[j]? = some y) (hij:j ≠ i):y ≠ x:=by
 rintro rfl
 obtain ⟨h1,h2⟩:=vBY.mp hi
 obtain ⟨h3,h4⟩:=vBY.mp hj
 exact hij ((List.getElem_inj (h₀:=h3) (h₁:=h1) h).mp (h4.trans h2.symm))
theorem jGD {v:Value} 
  (iv:Iv c h0z f0 env nm Z vf s) (st:St c env.locals s s1z) (rp:Rp c.mg s1z.heap v d fp) (hwk:Wk Zbz Z) (horg:∀ a ∈ fp,h0z.get? a = none \/ a ∈ f0 \/ Fz c a)
  (g1:1 <= lv -> ∀ a t,fp = a :: t -> s.heap.get? a = none /\ a ∉ t /\ Nd s1z.heap a) (g2:2 <= lv -> (∀ a ∈ fp,s.heap.get? a = none /\ Nd s1z.heap a) /\ fp.Nodup)
  (hxx:∀ (b:Addr) (j:Nat) (d':D) (l':Nat),j ≠ i -> Zbz[j]? = some (some (d',l')) -> ((1 <= l' /\ ∃ t,(vf j).2 = b :: t) \/ (2 <= l' /\ b ∈ (vf j).2)) -> b ∉ fp)
  (hsc:env.scope = sc) (hx:nm[i]? = some x) (hk:stK sc x = true) (ho:jNN x = true)
  (hQ:∀ s',Stp c h0z f0 env nm Z vf s (Zbz.set i (some (d,lv))) (fun j=>if j = i then (v,fp) else vf j) s' -> (∀ b o,b ≠ env.locals -> (∀ y,env.cells.lookup y ≠ some b) -> s1z.heap.get? b = some o -> s'.heap.get? b = some o) -> Q () s') :
  wpAny (model c.prog c.w) A (storeName env x v) Q E s1z:=by
 obtain ⟨m,hn⟩:=iv.rd.ns
 have iv1:=iv.keep st
 have hn1z:=st.kp.ns m hn
 have hok:(x == ("__debug__":Str)) = false /\ (x == ("__classdict__":Str)) = false:=by
  unfold jNN at ho
  simp only [vBR,bne_iff_ne,ne_eq] at ho
  exact ⟨by simpa using ho.1,by simpa using ho.2⟩
 have main:∀ s',(∃ h tk,s' = { s1z with heap:=h,toks:=tk }) -> Gd c s' -> (∃ m,s'.heap.Ns env.locals m) -> (∀ y a,env.cells.lookup y = some a -> ∃ v,s'.heap.IsCell a v) -> 
   (∀ b o,b ≠ env.locals -> (∀ y,env.cells.lookup y ≠ some b) -> s1z.heap.get? b = some o -> s'.heap.get? b = some o) -> (∀ b,s'.heap.get? b = none -> s1z.heap.get? b = none) -> 
   Bd env s'.heap x v -> (∀ y w,y ≠ x -> Bd env s1z.heap y w -> Bd env s'.heap y w) -> Q () s':=by
  intro s' hsame hgd hns hce hkeep hex hbx hby
  have hW:∀ b o,s1z.heap.get? b = some o -> (b = env.locals \/ ∃ y,env.cells.lookup y = some b) -> (∀ vs k,o.data ≠ .seq vs k) /\ ∀ vs,o.data ≠ .fields vs:=by
   rintro b o e (rfl | ⟨y,hy⟩)
   ·obtain ⟨o',es,ep,h1,h2,_⟩:=hn1z
    rw [e] at h1;obtain rfl:=vAy h1
    exact ⟨fun _ _ q=>(by rw [h2] at q;cases q),fun _ q=>(by rw [h2] at q;cases q)⟩
   ·obtain ⟨_,v',o',h1,h2⟩:=iv1.ce y b hy
    rw [e] at h1;obtain rfl:=vAy h1
    exact ⟨fun _ _ q=>(by rw [h2] at q;cases q),fun _ q=>(by rw [h2] at q;cases q)⟩
  have hnd:∀ a,Nd s1z.heap a -> Nd s'.heap a:=fun a ⟨o,vs,k,h1,h2,h3⟩=>⟨o,vs,k,hkeep a o (fun q=>(hW a o h1 (.inl q)).1 vs k h2) (fun y q=>(hW a o h1 (.inr ⟨y,q⟩)).1 vs k h2) h1,h2,h3⟩
  have hrp:∀ {w e g},Rp c.mg s1z.heap w e g -> Rp c.mg s'.heap w e g:=fun {w e g} r=>by
   refine r.keepM (W:=fun b=>b = env.locals \/ ∃ y,env.cells.lookup y = some b) (fun b o hb e _=>hkeep b o (fun q=>hb (.inl q)) (fun y q=>hb (.inr ⟨y,q⟩)) e) (fun b o vs k hb e _=>(hW b o e hb).1 vs k) (fun b o vs hb e=>(hW b o e hb).2 vs) fun a ha hb=>?_
   obtain ⟨o,vs,k,h1,_,h3⟩:=r.fp_list a ha
   exact (hW a o h1 hb).1 vs k h3
  have kp1:KpP (Mut env Z vf) s.heap s'.heap:=(KpP.of_kp st.kp (.inl rfl)).trans (Q:=fun b=>b = env.locals \/ ∃ y,env.cells.lookup y = some b)
   (KpP.of_but fun b o hb e=>hkeep b o (fun q=>hb (.inl q)) (fun y q=>hb (.inr ⟨y,q⟩)) e) fun b o _ hP hb=>hP (hb.imp id .inl)
  have hal:∀ j a,a ∈ (vf j).2 -> FpL s'.heap a:=fun j a ha=>by
   obtain ⟨o,vs,k,h1,h2,h3⟩:=iv1.al j a ha
   refine ⟨o,vs,k,hkeep a o (fun q=>?_) (fun y q=>?_) h1,h2,h3⟩
   ·exact (hW a o h1 (.inl q)).1 vs k h3
   ·exact (hW a o h1 (.inr ⟨y,q⟩)).1 vs k h3
  have hnew:∀ a,s.heap.get? a = none -> ∀ j,a ∉ (vf j).2:=fun a ha j hj=>by
   obtain ⟨o,vs,k,h1,_⟩:=iv.al j a hj
   rw [ha] at h1;exact nos h1
  have same:∃ h tk,s' = { s with heap:=h,toks:=tk }:=by
   obtain ⟨h,tk,e⟩:=st.same
   obtain ⟨h',tk',e'⟩:=hsame
   exact ⟨h',tk',by rw [e',e]⟩
  have hset:∀ (j:Nat) (d':D) (l':Nat),(Zbz.set i (some (d,lv)))[j]? = some (some (d',l')) -> (j = i /\ d' = d /\ l' = lv) \/ (j ≠ i /\ Zbz[j]? = some (some (d',l'))):=by
   intro j d' l' e
   rw [vCK] at e
   split at e
   ·rename_i q
    split at e
    ·cases e;exact .inl ⟨q.symm,rfl,rfl⟩
    ·exact nos e
   ·rename_i q;exact .inr ⟨fun w=>q w.symm,e⟩
  refine hQ s' ?_ hkeep
  refine iv.upd same hgd hns hce kp1 (fun b hb=>st.kp.gone hn (hex b hb):∀ b,s'.heap.get? b = none -> s.heap.get? b = none) hal _ i (lv:=lv) (d:=d) (fun j d' l' e=>?_) (fun j d' l' hj e=>?_) ⟨x,hx,hbx⟩ (hrp rp) horg (fun h1 a t e=>?_) (fun h2=>?_) (fun a ha=>hnd a (ha.keep st.kp hn)) (fun b hb j d' l' hj e h hbf=>?_) (fun h1 a t e=>?_) (fun h2 a ha=>?_)
  ·rcases hset j d' l' e with h | ⟨h1,h2⟩
   ·exact .inl h
   ·obtain ⟨l'',h3,h4⟩:=hwk j d' l' h2
    exact .inr ⟨h1,l'',h3,h4⟩
  ·rcases hset j d' l' e with ⟨h,_⟩ | ⟨h1,h2⟩
   ·exact absurd h hj
   ·refine nn fun gN=>?_
    obtain ⟨l'',h3,h4⟩:=hwk j d' l' h2
    obtain ⟨y,h5,h6,h7⟩:=iv1.rd.var j d' l'' h4
    refine gN ?_
    clear gN
    exact ⟨y,h5,hby y _ (jSL iv.nd hx h5 hj) h6,hrp h7⟩
  ·obtain ⟨w1,w2,w3⟩:=g1 h1 a t e
   exact ⟨(fun a ha=>iv.fresh ha:∀ a,s.heap.get? a = none -> h0z.get? a = none) a w1,w2,hnd a w3,fun j _=>hnew a w1 j⟩
  ·obtain ⟨w1,w2⟩:=g2 h2
   exact ⟨fun a ha=>⟨(fun a ha=>iv.fresh ha:∀ a,s.heap.get? a = none -> h0z.get? a = none) a (w1 a ha).1,hnd a (w1 a ha).2,fun j _=>hnew a (w1 a ha).1 j⟩,w2⟩
  ·rcases hset j d' l' e with ⟨w,_⟩ | ⟨_,w⟩
   ·exact hj w
   ·exact hxx b j d' l' hj w h hbf
  ·exact .inr (g1 h1 a t e).1
  ·exact .inr ((g2 h2).1 a ha).1
 unfold stK at hk
 simp only [vCD,vBZ] at hk
 rcases hk with hk | hk
 ·have hkx:env.kindOf x = some .local:=by unfold Env.kindOf;rw [hsc];exact hk
  refine wpAny_storeName_local hkx hn1z (fun h' hn' hs'=>?_) (by rw [iv.rd.fn];rfl)
  refine main _ ⟨h',s1z.toks + 1,rfl⟩ ⟨fun b o e=>hs'.extBut b o ((fun b o e q=>by rw [q,iv.rd.nb] at e;exact nos e:∀ b o,c.base.get? b = some o -> b ≠ env.locals) b o e) (st.bs.1 b o e),by exact vBr _⟩ ⟨_,hn'⟩ (fun y a e=>?_) (fun b o hb _ e=>hs'.extBut b o hb e) (fun b hb=>?_) ⟨hok.1,hok.2,.inl ⟨hkx,_,hn',by simp⟩⟩ ?_
  ·refine nn fun gN=>?_
   obtain ⟨_,v',o,h1,h2⟩:=iv1.ce y a e
   refine gN ?_
   exact ⟨v',o,hs'.extBut a o (zB hn1z h1 (Jd h2)) h1,h2⟩
  ·cases q:s1z.heap.get? b with
   | none=>rfl
   | some o =>
    by_cases hbL:b = env.locals
    ·subst hbL;obtain ⟨o',_,_,h1,_⟩:=hn';rw [hb] at h1;exact nos h1
    ·have:=hs'.extBut b o hbL q;rw [hb] at this;exact nos this
  ·rintro y w hyx ⟨b1,b2,b3⟩
   refine ⟨b1,b2,?_⟩
   rcases b3 with ⟨b4,m',b5,b6⟩ | ⟨b4,cl,b5,o,b6,b7⟩
   ·refine .inl ⟨b4,_,hn',?_⟩
    rw [jDI b5 hn1z] at b6
    simp [hyx,b6]
   ·exact .inr ⟨b4,cl,b5,o,hs'.extBut cl o (zB hn1z b6 (Jd b7)) b6,b7⟩
 ·have hkx:env.kindOf x = some .cell:=by unfold Env.kindOf;rw [hsc];exact hk
  obtain ⟨cl,hcl⟩:=iv.rd.cl x (by rw [hsc];exact hk)
  obtain ⟨hcl0,v0z,hv0⟩:=iv1.ce x cl hcl
  refine wpAny_storeName_cell iv.rd.fn hkx hcl hv0 (fun h' hc' hs'=>?_)
  have hLcl:env.locals ≠ cl:=fun q=>by
   obtain ⟨o,h1,h2⟩:=hv0
   exact zB hn1z h1 (Jd h2) q.symm
  have hclb:∀ b o,c.base.get? b = some o -> b ≠ cl:=fun b o e q=>by
   rw [q,iv.nb hcl0] at e;exact nos e
  refine main _ ⟨h',s1z.toks,rfl⟩ ⟨fun b o e=>hs'.extBut b o (hclb b o e) (st.bs.1 b o e),st.bs.2⟩ ⟨_,hn1z.at' fun o e=>hs'.extBut _ o hLcl e⟩ (fun y a e=>?_) (fun b o _ hb e=>hs'.extBut b o (fun q=>hb x (q ▸ hcl)) e) (fun b hb=>?_) ⟨hok.1,hok.2,.inr ⟨.inl hkx,cl,hcl,hc'⟩⟩ ?_
  ·by_cases q:a = cl
   ·obtain rfl:=q.symm;exact ⟨_,hc'⟩
   ·refine nn fun gN=>?_
    obtain ⟨_,v',o,h1,h2⟩:=iv1.ce y a e
    refine gN ?_
    exact ⟨v',o,hs'.extBut a o q h1,h2⟩
  ·cases q:s1z.heap.get? b with
   | none=>rfl
   | some o =>
    by_cases hbL:b = cl
    ·obtain rfl:=hbL.symm;obtain ⟨o',h1,_⟩:=hc';rw [hb] at h1;exact nos h1
    ·have:=hs'.extBut b o hbL q;rw [hb] at this;exact nos this
  ·rintro y w hyx ⟨b1,b2,b3⟩
   refine ⟨b1,b2,?_⟩
   rcases b3 with ⟨b4,m',b5,b6⟩ | ⟨b4,cl',b5,o,b6,b7⟩
   ·exact .inl ⟨b4,m',b5.at' fun o e=>hs'.extBut _ o hLcl e,b6⟩
   ·exact .inr ⟨b4,cl',b5,o,hs'.extBut cl' o (fun q=>hyx (iv.cd y x cl (q ▸ b5) hcl)) b6,b7⟩
theorem store {v:Value} 
  (iv:Iv c h0z f0 env nm Z vf s) (st:St c env.locals s s1z) (rp:Rp c.mg s1z.heap v d fp) (tr:Tr c s.heap vf occ fp) (lvl:Lv s.heap s1z.heap lv fp)
  (hsc:env.scope = sc) (hx:nm[i]? = some x) (hk:stK sc x = true) (ho:jNN x = true)
  (hQ:∀ s',Stp c h0z f0 env nm Z vf s (jGG occ i (d,lv) Z) (fun j=>if j = i then (v,fp) else vf j) s' -> (∀ b o,b ≠ env.locals -> (∀ y,env.cells.lookup y ≠ some b) -> s1z.heap.get? b = some o -> s'.heap.get? b = some o) -> Q () s') :
  wpAny (model c.prog c.w) A (storeName env x v) Q E s1z:=by
 have hfp:∀ a ∈ fp,h0z.get? a = none \/ a ∈ f0 \/ Fz c a:=fun a ha=>by
  rcases tr a ha with q | ⟨j,_,q⟩ | q
  ·exact .inl (iv.fresh q)
  ·exact iv.org j a q
  ·exact .inr (.inr q)
 have hex:∀ (b:Addr) (j:Nat) (d':D) (l':Nat) (Zbz:G),Wk Zbz Z -> Zbz[j]? = some (some (d',l')) -> ((1 <= l' /\ ∃ t,(vf j).2 = b :: t) \/ (2 <= l' /\ b ∈ (vf j).2)) -> ∃ o,s.heap.get? b = some o:=fun b j d' l' Zbz hwk e h=>by
  have hb:b ∈ (vf j).2:=by
   rcases h with ⟨_,t,q⟩ | ⟨_,q⟩
   ·rw [q];exact vBA ..
   ·exact q
  obtain ⟨o,_,_,z,_⟩:=iv.al j b hb
  exact ⟨o,z⟩
 have wk0:Wk Z Z:=fun j d l e=>⟨l,vBI _,e⟩
 unfold jGG at hQ
 split at hQ
 ·rename_i hfl
  have hnil:=rp.flat_fp hfl
  refine jGD iv st rp wk0 hfp (fun _ a t e=>?_) (fun _=>?_) (fun b j d' l' hj e h hb=>?_) hsc hx hk ho hQ
  ·rw [hnil] at e;cases e
  ·rw [hnil];exact ⟨fun _ h=>(nomatch h),.nil⟩
  ·rw [hnil] at hb;cases hb
 ·split at hQ
  ·rename_i h2
   refine jGD iv st rp wk0 hfp lvl.1 lvl.2 (fun b j d' l' hj e h hb=>?_) hsc hx hk ho hQ
   obtain ⟨o,z⟩:=hex b j d' l' Z wk0 e h
   rw [((lvl.2 h2).1 b hb).1] at z;exact nos z
  ·refine jGD iv st rp (ZE occ Z) hfp lvl.1 lvl.2 (fun b j d' l' hj e h hb=>?_) hsc hx hk ho hQ
   obtain ⟨o,z⟩:=hex b j d' l' _ (ZE occ Z) e h
   obtain ⟨l'',h3,h4,h5⟩:=jF e
   rcases tr b hb with q | ⟨j',hj',q⟩ | q
   ·rw [z] at q;exact son q
   ·have hjo:j' ≠ j:=fun w'=>by
     obtain rfl:=w'.symm
     have:=h5 hj'
     rcases h with ⟨w1,_⟩ | ⟨w1,_⟩ <;> exact absurd (h5 hj') (Nat.ne_of_gt (vCP (vBr _) w1))
    rcases h with ⟨w1,t,w2⟩ | ⟨w1,w2⟩
    ·exact (iv.own1 j d' l'' h4 (vAz w1 h3) b t w2).2.2.2 j' hjo q
    ·exact ((iv.own2 j d' l'' h4 (vAz w1 h3)).1 b w2).2.2 j' hjo q
   ·obtain ⟨o',e'⟩:=q.1
    have e':=iv.bh b o' e'
    rcases h with ⟨w1,t,w2⟩ | ⟨w1,w2⟩
    ·rw [(iv.own1 j d' l'' h4 (vAz w1 h3) b t w2).1] at e';exact nos e'
    ·rw [((iv.own2 j d' l'' h4 (vAz w1 h3)).1 b w2).1] at e';exact nos e'
end
inductive O where
 | next (Z:G)
 | brk (Z:G)
 | cont (Z:G)
 | ret (d:D) (lv:Nat)
 | exc (k:Str) (Z:G)
 | raise (k:Str)
abbrev Th:=G -> Option O
variable {fB:Th}
abbrev Tf:=Sg -> Th
structure RetP (c:Cx) (h0z:Heap) (f0:List Addr) (env:Env) (Z:G) (vf:Tb) (s:Shared) (d:D) (lv:Nat) (v:Value) (s':Shared):Prop where
 same:∃ h tk,s' = { s with heap:=h,toks:=tk }
 kp:KpP (Mut env Z vf) s.heap s'.heap
 kb:KpP (fun _=>False) h0z s'.heap
 gd:Gd c s'
 ns:∃ m,s'.heap.Ns env.locals m
 rp:∃ fp,Rp c.mg s'.heap v d fp /\ (∀ a ∈ fp,h0z.get? a = none \/ a ∈ f0 \/ Fz c a) /\ Lv h0z s'.heap lv fp
structure RaiseP (c:Cx) (h0z:Heap) (l:List Env) (env:Env) (Z:G) (vf:Tb) (s:Shared) (k:Str) (x:Value) (s':Shared):Prop where
 same:∃ h tk,s' = { s with heap:=h,toks:=tk }
 gd:Gd c s'
 made:∃ h e C args,x = .ref e /\ c.mg k = some (.ref C) /\ Heap.MadeExcOf h s'.heap e (.ref C) args /\ KpP (fun _=>False) h0z h /\ c.base.StaysIn h /\ FrOk c l h
def Post (c:Cx) (h0z:Heap) (f0:List Addr) (env:Env) (nm:List Str) (Z:G) (vf:Tb) (s:Shared):O -> Flow -> Shared -> Prop
 | .next Z',.next,s'=>∃ vf',Stp c h0z f0 env nm Z vf s Z' vf' s'
 | .brk Z',.brk,s'=>∃ vf',Stp c h0z f0 env nm Z vf s Z' vf' s'
 | .cont Z',.cont,s'=>∃ vf',Stp c h0z f0 env nm Z vf s Z' vf' s'
 | .ret d lv,.ret v,s'=>RetP c h0z f0 env Z vf s d lv v s'
 | _,_,_=>False
noncomputable def PostE (c:Cx) (l:List Env) (h0z:Heap) (f0:List Addr) (env:Env) (nm:List Str) (Z:G) (vf:Tb) (s:Shared):O -> Ta
 | .exc k Z',x,s'=>∃ vf' s1z,Stp c h0z f0 env nm Z vf s Z' vf' s1z /\ Fly c env.locals l s1z x k s'
 | .raise k,x,s'=>RaiseP c h0z l env Z vf s k x s'
 | _,_,_=>False
section
variable {n:Nat} {s:Shared}
theorem Stp.mut (x:Stp c h0z f0 env nm Z vf s Z' vf' s'):∀ b o,s.heap.get? b = some o -> ¬ Mut env Z vf b -> ¬ Mut env Z' vf' b:=fun b o q hP hM=>by
 rcases hM with rfl | hM | hM
 ·exact hP (.inl rfl)
 ·exact hP (.inr (.inl hM))
 ·rcases x.gr b hM with w | w
  ·exact hP (.inr (.inr w))
  ·rw [q] at w;cases w
theorem Post.back (x:Stp c h0z f0 env nm Z vf s Z' vf' s') {o:O} {f:Flow} (p:Post c h0z f0 env nm Z' vf' s' o f s''):Post c h0z f0 env nm Z vf s o f s'':=by
 cases o <;> first | exact p.elim | (cases f <;> first | exact p.elim | exact (fun ⟨v,p⟩=>⟨v,x.trans p⟩:∀ {Z1z:G},(∃ v,Stp c h0z f0 env nm Z' vf' s' Z1z v s'') -> ∃ v,Stp c h0z f0 env nm Z vf s Z1z v s'') p | skip)
 ·refine nn fun gN=>?_
  obtain ⟨h,tk,e⟩:=x.same
  obtain ⟨h',tk',e'⟩:=p.same
  refine gN ?_
  exact ⟨⟨h',tk',by rw [e',e]⟩,x.kp.trans p.kp x.mut,p.kb,p.gd,p.ns,p.rp⟩
theorem PostE.back (x:Stp c h0z f0 env nm Z vf s Z' vf' s') {o:O} {y:Value} (p:PostE c l h0z f0 env nm Z' vf' s' o y s''):PostE c l h0z f0 env nm Z vf s o y s'':=by
 cases o <;> first | exact p.elim | skip
 ·obtain ⟨v,s1z,p,q⟩:=p;exact ⟨v,s1z,x.trans p,q⟩
 ·refine nn fun gN=>?_
  obtain ⟨h,tk,e⟩:=x.same
  obtain ⟨h',tk',e'⟩:=p.same
  refine gN ?_
  clear gN
  exact ⟨⟨h',tk',by rw [e',e]⟩,p.gd,p.made⟩
def ScF (env:Env) (sc:Scope) (l:List Env):Prop:=env.scope = sc /\ l.head? = some env /\ env.frame = some env.locals
def jKM (c:Cx) (hm:Bool) (n:Nat) (sc:Scope) (nm:List Str) (st:Stmt) (f:Th):Prop :=
 ∀ (A:Around) (l:List Env) (env:Env) (h0z:Heap) (f0:List Addr) (Z:G) (vf:Tb) (s:Shared) (r:O) (Q:Flow -> Shared -> Prop) (E:Ta),
  ScF env sc l -> Room c hm n A l s.heap -> Iv c h0z f0 env nm Z vf s -> f Z = some r -> 
  (∀ w s',Post c h0z f0 env nm Z vf s r w s' -> Q w s') -> (∀ x s',PostE c l h0z f0 env nm Z vf s r x s' -> E x s') -> 
  wpAny (model c.prog c.w) A (exec st env) Q E s
def kn (c:Cx) (hm:Bool) (n:Nat) (sc:Scope) (nm:List Str) (st:List Stmt) (f:Th):Prop :=
 ∀ (A:Around) (l:List Env) (env:Env) (h0z:Heap) (f0:List Addr) (Z:G) (vf:Tb) (s:Shared) (r:O) (Q:Flow -> Shared -> Prop) (E:Ta),
  ScF env sc l -> Room c hm n A l s.heap -> Iv c h0z f0 env nm Z vf s -> f Z = some r -> 
  (∀ w s',Post c h0z f0 env nm Z vf s r w s' -> Q w s') -> (∀ x s',PostE c l h0z f0 env nm Z vf s r x s' -> E x s') -> 
  wpAny (model c.prog c.w) A (execs st env) Q E s
noncomputable def v9 (x:Option O) (f:Th):Option O :=
 (fun _=>match x with
 | some (.next Z)=>f Z
 | r=>r) @PySem.Builtin.divmod
@[simp] theorem Zo (Z:G) (f:Th):v9 (some (.next Z)) f = f Z:=rfl
@[simp] theorem qAH (d:D) (lv:Nat) (f:Th):v9 (some (.ret d lv)) f = some (.ret d lv):=rfl
@[simp] theorem qAJ (Z:G) (f:Th):v9 (some (.brk Z)) f = some (.brk Z):=rfl
@[simp] theorem jVC (Z:G) (f:Th):v9 (some (.cont Z)) f = some (.cont Z):=rfl
@[simp] theorem qAI (k:Str) (Z:G) (f:Th):v9 (some (.exc k Z)) f = some (.exc k Z):=rfl
@[simp] theorem jQG (k:Str) (f:Th):v9 (some (.raise k)) f = some (.raise k):=rfl
@[simp] theorem qIB (f:Th):v9 none f = none:=rfl
noncomputable def Yj {α:Type} (x:Option (R α)) (Z:G) (f:α -> Option O):Option O :=
 (fun _=>match x with
 | some (.ok a)=>f a
 | some (.exc k)=>some (.exc k Z)
 | none=>none) @PySem.Builtin.divmod
@[simp] theorem vz {α:Type} (a:α) (Z:G) (f:α -> Option O):Yj (some (.ok a)) Z f = f a:=rfl
@[simp] theorem qAL {α:Type} (k:Str) (Z:G) (f:α -> Option O):Yj (some (.exc k)) Z f = some (.exc k Z):=rfl
@[simp] theorem qIC {α:Type} (Z:G) (f:α -> Option O):Yj none Z f = none:=rfl
theorem vu {α:Type} {x:Option (R α)} {f:α -> Option O} {r:O} (h:Yj x Z f = some r):(∃ a,x = some (.ok a) /\ f a = some r) \/ ∃ k,x = some (.exc k) /\ r = .exc k Z:=by
 unfold Yj at h
 split at h
 ·exact .inl ⟨_,rfl,h⟩
 ·exact .inr ⟨_,rfl,(vAy h).symm⟩
 ·exact nos h
theorem Den.runS (hd:Den c hm n sc nm e occ f) {g:D × Nat -> Option O} {r:O}
  {Q:Ta} 
  (hsc:env.scope = sc) (hR:Room c hm n A l s.heap) (iv:Iv c h0z f0 env nm Z vf s) (hx:Yj (f Z) Z g = some r)
  (hok:∀ d lv,f Z = some (.ok (d,lv)) -> g (d,lv) = some r -> ∀ v fp s',St c env.locals s s' -> Rp c.mg s'.heap v d fp -> Tr c s.heap vf occ fp -> Lv s.heap s'.heap lv fp -> Q v s')
  (hexc:∀ x s',PostE c l h0z f0 env nm Z vf s r x s' -> E x s'):wpAny (model c.prog c.w) A (eval e env) Q E s:=by
 rcases vu hx with ⟨⟨d,lv⟩,h1,h2⟩ | ⟨k,h1,rfl⟩
 ·exact hd A l env Z vf s _ Q E hsc hR iv.rd h1 (fun v d' lv' fp s' e st rp tr lvl=>by cases e;exact hok d lv h1 h2 v fp s' st rp tr lvl) fun x k s' e=>rno e
 ·exact hd A l env Z vf s _ Q E hsc hR iv.rd h1 (fun v d' lv' fp s' e=>rnx e) fun x k' s' e fl=>by cases e;exact hexc x s' ⟨vf,s,iv.step (St.refl iv.rd.bs),fl⟩
theorem DenB.runS {f:G -> Option (R Bool)} (hd:DenB c hm n sc nm e f) {g:Bool -> Option O} {r:O}
  {Q:Bool -> Shared -> Prop} 
  (hsc:env.scope = sc) (hR:Room c hm n A l s.heap) (iv:Iv c h0z f0 env nm Z vf s) (hx:Yj (f Z) Z g = some r)
  (hok:∀ b,f Z = some (.ok b) -> g b = some r -> ∀ s',St c env.locals s s' -> Q b s')
  (hexc:∀ x s',PostE c l h0z f0 env nm Z vf s r x s' -> E x s'):wpAny (model c.prog c.w) A (isTrue e env (eval e env)) Q E s:=by
 rcases vu hx with ⟨b,h1,h2⟩ | ⟨k,h1,rfl⟩
 ·exact hd A l env Z vf s _ Q E hsc hR iv.rd h1 (fun b' s' e st=>by cases e;exact hok b h1 h2 s' st) fun x k s' e=>rno e
 ·exact hd A l env Z vf s _ Q E hsc hR iv.rd h1 (fun v s' e=>rnx e) fun x k' s' e fl=>by cases e;exact hexc x s' ⟨vf,s,iv.step (St.refl iv.rd.bs),fl⟩
theorem jZS:kn c hm n sc nm [] (fun Z=>some (.next Z)):=by
 intro A l env h0z f0 Z vf s r Q E hsF hR iv hf hQ hE
 have hsc:=hsF.1
 obtain rfl:=vAy hf
 exact vBp (hQ _ _ ⟨vf,iv.step (St.refl iv.rd.bs)⟩)
theorem jUX {st:Stmt} {rest:List Stmt} {f g:Th} (h1:jKM c hm n sc nm st f) (h2:kn c hm n sc nm rest g):kn c hm n sc nm (st :: rest) (fun Z=>v9 (f Z) g):=by
 intro A l env h0z f0 Z vf s r Q E hsF hR iv hf hQ hE
 have hsc:=hsF.1
 refine wpAny_execs_cons ?_
 dsimp only at hf
 cases hfs:f Z with
 | none=>rw [hfs] at hf;exact nos hf
 | some o =>
  rw [hfs] at hf
  cases o with
  | next Z' =>
   refine h1 A l env h0z f0 Z vf s _ _ E hsF hR iv hfs (fun w s' p=>?_) (fun x s' p=>p.elim)
   cases w <;> first | exact p.elim | skip
   obtain ⟨vf',p⟩:=p
   exact h2 A l env h0z f0 Z' vf' s' r Q E hsF (p.room iv hR) p.iv hf (fun w s'' q=>hQ w s'' (q.back p)) (fun x s'' q=>hE x s'' (q.back p))
  | brk Z'=>cases hf;exact h1 A l env h0z f0 Z vf s _ _ E hsF hR iv hfs (fun w s' p=>by cases w <;> first | exact p.elim | exact hQ _ _ p) hE
  | cont Z'=>cases hf;exact h1 A l env h0z f0 Z vf s _ _ E hsF hR iv hfs (fun w s' p=>by cases w <;> first | exact p.elim | exact hQ _ _ p) hE
  | ret d lv=>cases hf;exact h1 A l env h0z f0 Z vf s _ _ E hsF hR iv hfs (fun w s' p=>by cases w <;> first | exact p.elim | exact hQ _ _ p) hE
  | exc k Z'=>obtain rfl:=vAy hf;exact h1 A l env h0z f0 Z vf s _ _ E hsF hR iv hfs (fun w s' p=>p.elim) hE
  | raise k=>obtain rfl:=vAy hf;exact h1 A l env h0z f0 Z vf s _ _ E hsF hR iv hfs (fun w s' p=>p.elim) hE
theorem JI {p:Pos} (i:Nat) (h:Den c hm n sc nm e occ f) (hx:autoParam (nm[i]? = some x) yL) (hk:autoParam (stK sc x = true) yK) (ho:autoParam (jNN x = true) yK)
  (hs:autoParam (∀ env:Env,env.scope = sc -> swapsWith e (some (.Name x p)) pos.line env = pure false) yN) :
  jKM c hm n sc nm (.Assign [.Name x p] e pos) (fun Z=>Yj (f Z) Z fun a=>some (.next (jGG occ i a Z))):=by
 intro A l env h0z f0 Z vf s r Q E hsF hR iv hf hQ hE
 have hsc:=hsF.1
 refine vCV (h.runS hsc hR iv hf (fun d lv _ hf v fp s1z st rp tr lvl=>?_) hE) (hs env hsc)
 obtain rfl:=vAy hf
 exact store iv st rp tr lvl hsc hx hk ho fun s' sp _=>hQ _ _ ⟨_,sp⟩
theorem JM {orelse:List Stmt} {f:G -> Option (R Bool)} {g k:Th} (h:DenB c hm n sc nm test f) (h1:kn c hm n sc nm body g) (h2:kn c hm n sc nm orelse k) :
  jKM c hm n sc nm (.If test body orelse pos) (fun Z=>Yj (f Z) Z fun b=>if b then g Z else k Z):=by
 intro A l env h0z f0 Z vf s r Q E hsF hR iv hf hQ hE
 refine wpAny_If (h.runS hsF.1 hR iv hf (fun b _ hf s1z st=>?_) hE)
 have sp:=iv.step st
 cases b with
 | true=>exact h1 A l env h0z f0 Z vf s1z r Q E hsF (sp.room iv hR) sp.iv hf (fun w s'' q=>hQ w s'' (q.back sp)) (fun x s'' q=>hE x s'' (q.back sp))
 | false=>exact h2 A l env h0z f0 Z vf s1z r Q E hsF (sp.room iv hR) sp.iv hf (fun w s'' q=>hQ w s'' (q.back sp)) (fun x s'' q=>hE x s'' (q.back sp))
theorem qIW {v:Value} {fp occ} (iv:Iv c h0z f0 env nm Z vf s) (st:St c env.locals s s1z) (rp:Rp c.mg s1z.heap v d fp) (tr:Tr c s.heap vf occ fp) (lvl:Lv s.heap s1z.heap lv fp):RetP c h0z f0 env Z vf s d lv v s1z:=by
 refine ⟨st.same,KpP.of_kp st.kp (.inl rfl),(iv.keep st).kb,st.bs,(iv.keep st).rd.ns,fp,rp,fun a ha=>?_,lvl.back fun a ha=>iv.fresh ha⟩
 rcases tr a ha with q | ⟨j,_,q⟩ | q
 ·exact .inl (iv.fresh q)
 ·exact iv.org j a q
 ·exact .inr (.inr q)
theorem JE (h:Den c hm n sc nm e occ f):jKM c hm n sc nm (.Return (some e) pos) (fun Z=>Yj (f Z) Z fun a=>some (.ret a.1 a.2)):=by
 intro A l env h0z f0 Z vf s r Q E hsF hR iv hf hQ hE
 refine vCr (h.runS hsF.1 hR iv hf (fun d lv _ hf v fp s1z st rp tr lvl=>?_) hE)
 obtain rfl:=vAy hf
 exact hQ _ _ (qIW iv st rp tr lvl)
def jTX (i:Nat) (Z:G):Option O:=atV Z i fun d lv=>some (.ret d lv)
theorem Qu {p:Pos} (i:Nat) (hx:autoParam (nm[i]? = some x) yL):jKM c hm n sc nm (.Return (some (.Name x p)) pos) (jTX i):=by
 intro A l env h0z f0 Z vf s r Q E hsF hR iv hf hQ hE
 have hsc:=hsF.1
 ·refine nn fun gN=>?_
  obtain ⟨d,lv,hi,hf⟩:=jCI hf
  obtain rfl:=vAy hf
  obtain ⟨y,h1,h2,h3⟩:=iv.rd.var i d lv hi
  refine gN ?_
  clear gN
  rw [hx] at h1;obtain rfl:=vAy h1
  refine vCr (XS iv.rd.fn h2 (hQ _ _ ⟨⟨_,_,rfl⟩,KpP.refl _ _,iv.kb,iv.rd.bs,iv.rd.ns,_,h3,iv.org i,fun q a t e=>?_,fun q=>?_⟩))
  ·exact ⟨(iv.own1 i d lv hi q a t e).1,(iv.own1 i d lv hi q a t e).2.1,(iv.own1 i d lv hi q a t e).2.2.1⟩
  ·exact ⟨fun a ha=>⟨((iv.own2 i d lv hi q).1 a ha).1,((iv.own2 i d lv hi q).1 a ha).2.1⟩,(iv.own2 i d lv hi q).2⟩
theorem jG (h:Den c hm n sc nm e occ f) (hs:autoParam (∀ env:Env,env.scope = sc -> swapsWith e none pos.line env = pure false) yN)
  (hi:autoParam (∀ env:Env,env.scope = sc -> interactive env = false) yE) :
  jKM c hm n sc nm (.Expr e pos) (fun Z=>Yj (f Z) Z fun _=>some (.next Z)):=by
 intro A l env h0z f0 Z vf s r Q E hsF hR iv hf hQ hE
 refine vCZ (h.runS hsF.1 hR iv hf (fun d lv _ hf v fp s1z st rp tr lvl=>?_) hE) (hi env hsF.1) (hs env hsF.1)
 obtain rfl:=vAy hf
 exact hQ _ _ ⟨vf,iv.step st⟩
theorem z0:jKM c hm n sc nm (.Break pos) (fun Z=>some (.brk Z)):=by
 intro A l env h0z f0 Z vf s r Q E hsF hR iv hf hQ hE
 have hsc:=hsF.1
 obtain rfl:=vAy hf
 exact wpAny_Break (hQ _ _ ⟨vf,iv.step (St.refl iv.rd.bs)⟩)
theorem Stp.let_go (x:Stp c h0z f0 env nm Z vf s Z' vf' s') (hns:s'.heap.Ns C m') (hC:s.heap.get? C = none) (hCL:C ≠ env.locals) (hC0:h0z.get? C = none) (hs':Heap.SameBut C s'.heap h') :
  Stp c h0z f0 env nm Z vf s Z' vf' { s' with heap:=h' }:=by
 have k:∀ b o,s'.heap.get? b = some o -> JW o -> h'.get? b = some o:=fun b o e nd=>hs'.extBut b o (zB hns e nd) e
 obtain ⟨m,hn⟩:=x.iv.rd.ns
 have iv:=x.iv
 have hex:∀ b,h'.get? b = none -> s'.heap.get? b = none \/ b = C:=fun b hb=>by
  by_cases q:b = C
  ·exact .inr q
  ·refine .inl ?_
   cases e:s'.heap.get? b with
   | none=>rfl
   | some o=>have:=hs'.extBut b o q e;rw [hb] at this;exact nos this
 refine ⟨⟨⟨⟨fun b o e=>hs'.extBut b o (fun q=>by rw [q,iv.nb hC0] at e;exact nos e) (iv.rd.bs.1 b o e),iv.rd.bs.2⟩,⟨m,hn.at' fun o e=>hs'.extBut _ o (Ne.symm hCL) e⟩,iv.rd.nb,iv.rd.fn,iv.rd.gl,iv.rd.bl,iv.rd.cl,fun i d lv e=>?_⟩,
  fun b o _ e=>?_,iv.nl,fun y a e=>?_,iv.cd,iv.nd,fun i a ha=>?_,iv.org,fun i d lv e q a t r=>?_,fun i d lv e q=>?_,iv.bh⟩,?_,fun b o hb e=>?_,x.gr,fun b hb=>?_⟩
 ·refine nn fun gN=>?_
  obtain ⟨y,h1,⟨b1,b2,b3⟩,h3⟩:=iv.rd.var i d lv e
  refine gN ?_
  clear gN
  refine ⟨y,h1,⟨b1,b2,?_⟩,h3.keep k⟩
  rcases b3 with ⟨b4,m'',b5,b6⟩ | ⟨b4,cl,b5,o,b6,b7⟩
  ·exact .inl ⟨b4,m'',b5.at' fun o e=>hs'.extBut _ o (Ne.symm hCL) e,b6⟩
  ·exact .inr ⟨b4,cl,b5,o,k cl o b6 (Jd b7),b7⟩
 ·obtain ⟨h1,sl,h2⟩:=iv.kb b o id e
  have hb:b ≠ C:=fun q=>by rw [q,hC0] at e;exact nos e
  exact ⟨fun nd=>hs'.extBut b o hb (h1 nd),sl,hs'.extBut b _ hb h2⟩
 ·refine nn fun gN=>?_
  obtain ⟨h1,v,o,h2,h3⟩:=iv.ce y a e
  refine gN ?_
  clear gN
  exact ⟨h1,v,o,k a o h2 (Jd h3),h3⟩
 ·refine nn fun gN=>?_
  obtain ⟨o,vs,j,h1,h2,h3⟩:=iv.al i a ha
  refine gN ?_
  clear gN
  exact ⟨o,vs,j,k a o h1 (JK h3),h2,h3⟩
 ·refine nn fun gN=>?_
  obtain ⟨h1,h2,⟨o,vs,j,w1,w2,w3⟩,h4⟩:=iv.own1 i d lv e q a t r
  refine gN ?_
  clear gN
  exact ⟨h1,h2,⟨o,vs,j,k a o w1 (JK w2),w2,w3⟩,h4⟩
 ·obtain ⟨h1,h2⟩:=iv.own2 i d lv e q
  refine ⟨fun a ha=>?_,h2⟩
  refine nn fun gN=>?_
  obtain ⟨w0,⟨o,vs,j,w1,w2,w3⟩,w4⟩:=h1 a ha
  refine gN ?_
  clear gN
  exact ⟨w0,⟨o,vs,j,k a o w1 (JK w2),w2,w3⟩,w4⟩
 ·obtain ⟨h,tk,q⟩:=x.same
  exact ⟨h',s'.toks,by rw [q]⟩
 ·obtain ⟨h1,sl,h2⟩:=x.kp b o hb e
  have hbC:b ≠ C:=fun q=>by rw [q,hC] at e;exact nos e
  exact ⟨fun nd=>hs'.extBut b o hbC (h1 nd),sl,hs'.extBut b _ hbC h2⟩
 ·rcases hex b hb with q | q
  ·exact x.ex b q
  ·rw [q];exact hC
noncomputable def jWJ (sc scope:Scope) (x:Str) (p pos:Pos):Bool :=
 sc.kind == .function && (sc.names.lookup x == some .local) && p.line == pos.line && !(scope.names.any fun (n,k)=>n == x && (k == .local || k == .cell))
theorem qBB {gens:List Comprehension} {p:Pos} {ln:Nat} (hsc:env.scope = sc) (hk:sc.kind = .function) :
  swapsWith (.ListComp elt gens scope pos) (some (.Name x p)) ln env = pure (jWJ sc scope x p pos):=by
 unfold swapsWith jWJ Env.blockKind Env.kindOf
 rw [hsc,hk]
 rfl
theorem jMJ {t:Str} {p pc:Pos} {iter:Expr} {ifs:List Expr} (i:Nat) (cap:List Nat)
  (hI:DenIt c hm n sc nm iter occI fI) (hT:qLB c hm n (Zg scope sc) (jBA nm x cap) ifs fC) (hEl:Den c hm n (Zg scope sc) (jBA nm x cap) elt occE fE)
  (hok:autoParam (jMS sc scope nm x cap = true) yK) (hfs:autoParam (∀ env v,foldedSetIterable iter env v = pure v) yN)
  (hx:autoParam (nm[i]? = some t) yL) (hk:autoParam (stK sc t = true) yK) (ho:autoParam (jNN t = true) yK)
  (hsw:autoParam (jWJ sc scope t p pc = true) yK) :
  jKM c hm n sc nm (.Assign [.Name t p] (.ListComp elt [⟨.Name x px,iter,ifs,0⟩] scope pc) pos) (fun Z=>Yj (JR (fI Z) (jN fE fC cap Z)) Z fun a=>some (.next (jGG (occI ++ cap) i a Z))):=by
 intro A l env h0z f0 Z vf s r Q E hsF hR iv hf hQ hE
 refine nn fun gN=>?_
 have hsc:=hsF.1
 obtain ⟨m,hn⟩:=iv.rd.ns
 obtain ⟨k1,k2,k3,k4,k5,k6,k7,k8,k9⟩:=z9 hok
 refine gN ?_
 clear gN
 rw [exec_Assign_Name_used _ _ _ _ ((qBB hsc k2).trans (by rw [hsw]))]
 refine vBE (wpAny_standAt (vBE ?_))
 refine vBE ?_
 refine vCO (Q:=fun _ s'=>Q .next s') (E:=E) ?_ (fun _ s' q=>vBM (vBM q)) fun _ _ x=>x
 refine wpAny_comprehension_free rfl (hfs env) (zU fun y hy q=>iv.rd.cl y.1 (by rw [hsc];exact k6 y hy q)) k1 k5 ?_
 rcases vu hf with ⟨a,h1,h2⟩ | ⟨k,h1,rfl⟩
 ·refine jEE hok hI hT hEl hsc hR iv.rd h1 (fun Da C s' m' ds fp e st rp tr lv hns hC hCb=>?_) (fun x k s' e=>rno e)
  cases e
  obtain rfl:=vAy h2
  have hCL:C ≠ env.locals:=fun q=>by obtain ⟨o,_,_,e,_⟩:=hn;rw [q,e] at hC;exact son hC
  have hCc:∀ y,env.cells.lookup y ≠ some C:=fun y q=>by
   obtain ⟨_,v,o,e,_⟩:=iv.ce y C q
   rw [hC] at e;exact nos e
  refine vCU (store iv st rp tr lv hsc hx hk ho fun s'' sp hkeep=>⟨m',hns.at' fun o e=>hkeep C o hCL hCc e,fun h' hs'=>?_⟩)
  exact hQ _ _ ⟨_,sp.let_go (hns.at' fun o e=>hkeep C o hCL hCc e) hC hCL (iv.fresh hC) hs'⟩
 ·refine jEE hok hI hT hEl hsc hR iv.rd h1 (fun Da C s' m' ds fp e=>rnx e) (fun x k' s' e fl=>?_)
  cases e
  exact hE x s' ⟨vf,s,iv.step (St.refl iv.rd.bs),fl⟩
theorem jOL {d':D} (e:(Zbz.set i (some (d,lv)))[j]? = some (some (d',lv'))):(j = i /\ d' = d /\ lv' = lv) \/ (j ≠ i /\ Zbz[j]? = some (some (d',lv'))):=by
 rw [vCK] at e
 split at e
 ·rename_i q
  split at e
  ·cases e;exact .inl ⟨q.symm,rfl,rfl⟩
  ·exact nos e
 ·rename_i q;exact .inr ⟨fun w=>q w.symm,e⟩
theorem jSM {a:Addr} {t t':List Addr} {xs ds':List D} {vs':Array Value} 
  (iv:Iv c h0z f0 env nm Z vf s) (st:St c env.locals s s1z) (hi:Z[i]? = some (some (.list xs,lv))) (h1:1 <= lv) (hfp:(vf i).2 = a :: t)
  (hs':Heap.SameBut a s1z.heap h') (hl:h'.IsList a vs') (hnd:Nd h' a) (hrs:Rps c.mg s1z.heap vs'.toList ds' t') (hna:a ∉ t')
  (ht:∀ b ∈ t',b ∈ t \/ s.heap.get? b = none \/ (∃ j ∈ occ,b ∈ (vf j).2) \/ Fz c b) (hwk:Wk Zbz Z) (hlv:lv' <= lv)
  (hcase:(∀ b ∈ t',b ∈ t \/ s.heap.get? b = none) \/ (lv' <= 1 /\ i ∉ occ /\ ∀ (j:Nat) (d:D) (l:Nat),Zbz[j]? = some (some (d,l)) -> j ∈ occ -> l = 0))
  (hnod:2 <= lv' -> t'.Nodup /\ ∀ b ∈ t',b ∈ t \/ (s.heap.get? b = none /\ Nd s1z.heap b)) :
  Stp c h0z f0 env nm Z vf s (Zbz.set i (some (.list ds',lv'))) (fun j=>if j = i then ((vf i).1,a :: t') else vf j) { s1z with heap:=h' }:=by
 refine nn fun gN=>?_
 obtain ⟨m,hn⟩:=iv.rd.ns
 have iv1:=iv.keep st
 obtain ⟨w1,w2,w3,w4⟩:=iv.own1 i _ lv hi h1 a t hfp
 obtain ⟨x,hx,hbx,hrx⟩:=iv1.rd.var i _ lv hi
 have hv:(vf i).1 = .ref a:=by
  obtain ⟨a',_,f,z1,z2,_⟩:=jIS hrx
  rw [hfp] at z2
  cases z2;exact z1
 have hOwn:Own Z vf a:=⟨i,_,lv,hi,.inl ⟨h1,t,hfp⟩⟩
 obtain ⟨⟨oa,va,ka,e1,e2,e3⟩,_⟩:=hOwn.lst iv1
 have hLa:env.locals ≠ a:=fun q=>zB (st.kp.ns m hn) e1 (JK e3) q.symm
 have hca:∀ y,env.cells.lookup y ≠ some a:=fun y q=>by
  obtain ⟨_,v,o,z1,z2⟩:=iv1.ce y a q
  rw [e1] at z1;obtain rfl:=vAy z1
  rw [e3] at z2;cases z2
 have keep:∀ {w e g},Rp c.mg s1z.heap w e g -> a ∉ g -> Rp c.mg h' w e g:=fun {w e g} r hg =>
  r.keepM (W:=fun b=>b = a) (fun b o hb e _=>hs'.extBut b o hb e) (fun b o vs k hb e hc hd=>by obtain rfl:=hb.symm;rw [e1] at e;obtain rfl:=vAy e;rw [e2] at hc;injection hc with q;exact absurd q (by decide))
   (fun b o vs hb e hd=>by obtain rfl:=hb.symm;rw [e1] at e;obtain rfl:=vAy e;rw [e3] at hd;cases hd) fun a hb q=>hg (q ▸ hb)
 have keeps:Rps c.mg h' vs'.toList ds' t' :=
  hrs.keepM (W:=fun b=>b = a) (fun b o hb e _=>hs'.extBut b o hb e) (fun b o vs k hb e hc hd=>by obtain rfl:=hb.symm;rw [e1] at e;obtain rfl:=vAy e;rw [e2] at hc;injection hc with q;exact absurd q (by decide))
   (fun b o vs hb e hd=>by obtain rfl:=hb.symm;rw [e1] at e;obtain rfl:=vAy e;rw [e3] at hd;cases hd) fun a hb q=>hna (q ▸ hb)
 have keepB:∀ y w,Bd env s1z.heap y w -> Bd env h' y w:=by
  rintro y w ⟨b1,b2,b3⟩
  refine ⟨b1,b2,?_⟩
  rcases b3 with ⟨b4,m',b5,b6⟩ | ⟨b4,cl,b5,o,b6,b7⟩
  ·exact .inl ⟨b4,m',b5.at' fun o e=>hs'.extBut _ o hLa e,b6⟩
  ·exact .inr ⟨b4,cl,b5,o,hs'.extBut cl o (fun q=>hca y (q ▸ b5)) b6,b7⟩
 have hnda:∀ b,Nd s.heap b -> Nd h' b:=fun b hb=>by
  by_cases q:b = a
  ·obtain rfl:=q.symm;exact hnd
  ·obtain ⟨o,vs,k,z1,z2,z3⟩:=hb.keep st.kp hn
   exact ⟨o,vs,k,hs'.extBut b o q z1,z2,z3⟩
 have hres:∀ b,h'.get? b = none -> s1z.heap.get? b = none:=fun b hb=>by
  by_cases q:b = a
  ·obtain rfl:=q.symm;obtain ⟨o,z,_⟩:=hl;rw [hb] at z;exact nos z
  ·cases e:s1z.heap.get? b with
   | none=>rfl
   | some o=>have:=hs'.extBut b o q e;rw [hb] at this;exact nos this
 refine gN ?_
 clear gN
 refine iv.upd (s':={ s1z with heap:=h' }) ?_ ⟨fun b o e=>hs'.extBut b o (fun q=>?_) (st.bs.1 b o e),st.bs.2⟩ ⟨m,(st.kp.ns m hn).at' fun o e=>hs'.extBut _ o hLa e⟩ (fun y b e=>?_) ?_ (fun b hb=>st.kp.gone hn (hres b hb)) (fun j b hb=>?_) _ i (lv:=lv') (d:=.list ds')
  (fun j d' l' e=>?_) (fun j d' l' hj e=>?_) ⟨x,hx,keepB x _ hbx⟩ ?_ (fun b hb=>?_) (fun q b t'' e=>?_) (fun q=>?_) hnda (fun b hb j d' l' hj e h hbf=>?_) (fun q b t'' e=>?_) (fun q b hb=>?_)
 ·obtain ⟨h,tk,q⟩:=st.same
  exact ⟨h',s1z.toks,by rw [q]⟩
 ·rw [q,iv.nb w1] at e;exact nos e
 ·refine nn fun gN=>?_
  obtain ⟨_,v,o,z1,z2⟩:=iv1.ce y b e
  refine gN ?_
  clear gN
  exact ⟨v,o,hs'.extBut b o (fun q=>hca y (q ▸ e)) z1,z2⟩
 ·exact (KpP.of_kp st.kp (.inl rfl)).trans (Q:=fun b=>b = a) (KpP.of_but fun b o hb e=>hs'.extBut b o hb e) fun b o _ hP hb=>hP (.inr (.inr (hb ▸ hOwn)))
 ·by_cases q:b = a
  ·refine nn fun gN=>?_
   obtain rfl:=q.symm
   obtain ⟨o,z1,z2,k,z3⟩:=hl
   refine gN ?_
   clear gN
   exact ⟨o,_,k,z1,z2,z3⟩
  ·refine nn fun gN=>?_
   obtain ⟨o,vs,k,z1,z2,z3⟩:=iv1.al j b hb
   refine gN ?_
   clear gN
   exact ⟨o,vs,k,hs'.extBut b o q z1,z2,z3⟩
 ·rcases jOL e with z | ⟨z1,z2⟩
  ·exact .inl z
  ·obtain ⟨l'',z3,z4⟩:=hwk j d' l' z2
   exact .inr ⟨z1,l'',z3,z4⟩
 ·rcases jOL e with ⟨z,_⟩ | ⟨z1,z2⟩
  ·exact absurd z hj
  ·refine nn fun gN=>?_
   obtain ⟨l'',z3,z4⟩:=hwk j d' l' z2
   obtain ⟨y,z5,z6,z7⟩:=iv1.rd.var j d' l'' z4
   refine gN ?_
   clear gN
   exact ⟨y,z5,keepB y _ z6,keep z7 (w4 j hj)⟩
 ·rw [hv]
  refine nn fun gN=>?_
  obtain ⟨o,z1,z2,k,z3⟩:=hl
  refine gN ?_
  clear gN
  exact .list z1 z2 z3 keeps
 ·rcases vCu.mp hb with hqq | hb
  ·rw [hqq];exact .inl w1
  ·rcases ht b hb with q | q | ⟨j,_,q⟩ | q
   ·exact iv.org i b (by rw [hfp];exact vBC _ q)
   ·exact .inl (iv.fresh q)
   ·exact iv.org j b q
   ·exact .inr (.inr q)
 ·cases e
  exact ⟨w1,hna,hnd,w4⟩
 ·obtain ⟨z1,z2⟩:=hnod q
  obtain ⟨z3,z4⟩:=iv.own2 i _ lv hi (vAz q hlv)
  refine ⟨fun b hb=>?_,vCv.mpr ⟨hna,z1⟩⟩
  rcases vCu.mp hb with hqq | hb
  ·rw [hqq];exact ⟨w1,hnd,w4⟩
  ·rcases z2 b hb with q | ⟨q,hnb⟩
   ·obtain ⟨y1,y2,y3⟩:=z3 b (by rw [hfp];exact vBC _ q)
    exact ⟨y1,hnda b y2,y3⟩
   ·refine ⟨iv.fresh q,?_,fun j _ hj=>?_⟩
    ·refine nn fun gN=>?_
     obtain ⟨o,vs,k,y1,y2,y3⟩:=hnb
     refine gN ?_
     clear gN
     exact ⟨o,vs,k,hs'.extBut b o (fun q'=>hna (q' ▸ hb)) y1,y2,y3⟩
    ·obtain ⟨o,_,_,z,_⟩:=iv.al j b hj;rw [q] at z;exact nos z
 ·rcases jOL e with ⟨z,_⟩ | ⟨z1,z2⟩
  ·exact hj z
  obtain ⟨l'',z3,z4⟩:=hwk j d' l' z2
  have hnot:∀ j',j' ≠ j -> b ∉ (vf j').2:=fun j' hj'=>by
   rcases h with ⟨y1,t'',y2⟩ | ⟨y1,y2⟩
   ·exact (iv.own1 j d' l'' z4 (vAz y1 z3) b t'' y2).2.2.2 j' hj'
   ·exact ((iv.own2 j d' l'' z4 (vAz y1 z3)).1 b y2).2.2 j' hj'
  obtain ⟨⟨o,_,_,z5,_⟩,z6⟩:=hb.lst iv
  rcases vCu.mp hbf with rfl | hbf
  ·exact hnot i (fun q=>hj q.symm) (by rw [hfp];exact vBA ..)
  ·have hti:b ∉ t:=fun q=>hnot i (fun q=>hj q.symm) (by rw [hfp];exact vBC _ q)
   rcases hcase with hc | ⟨_,_,hc⟩
   ·rcases hc b hbf with q | q
    ·exact hti q
    ·rw [z5] at q;exact son q
   ·rcases ht b hbf with q | q | ⟨j',hj',q⟩ | q
    ·exact hti q
    ·rw [z5] at q;exact son q
    ·by_cases hjj:j' = j
     ·subst hjj
      have:=hc j' d' l' z2 hj'
      rcases h with ⟨y1,_⟩ | ⟨y1,_⟩ <;> exact absurd this (Nat.ne_of_gt (vCP (vBr _) y1))
     ·exact hnot j' hjj q
    ·exact q.1.elim fun o' e'=>by (have e':=iv.bh b o' e';rw [z6] at e';exact nos e')
 ·cases e;exact .inl hOwn
 ·rcases vCu.mp hb with hqq | hb
  ·rw [hqq];exact .inl hOwn
  ·rcases (hnod q).2 b hb with z | z
   ·exact .inl ⟨i,_,lv,hi,.inr ⟨vAz q hlv,by rw [hfp];exact vBC _ z⟩⟩
   ·exact .inr z.1
def qNJ (occ:List Nat) (i:Nat) (xs:List D) (lv:Nat) (a:D × Nat) (Z:G):Option O :=
 if a.1.flat || decide (2 <= a.2) then some (.next (Z.set i (some (.list (xs ++ [a.1]),lv))))
 else if occ.contains i then none else some (.next ((JX occ Z).set i (some (.list (xs ++ [a.1]),1))))
def qHO (occ:List Nat) (i:Nat) (f:Tg) (Z:G):Option O :=
 atL Z i fun xs lv=>if 1 <= lv /\ xs.length <= lim then Yj (f Z) Z fun a=>qNJ occ i xs lv a Z else none
theorem Iv.lst (iv:Iv c h0z f0 env nm Z vf s) {xs:List D} (hi:Z[i]? = some (some (.list xs,lv))) (h1:1 <= lv) :
  ∃ a t vs x,(vf i).1 = .ref a /\ (vf i).2 = a :: t /\ s.heap.IsList a vs /\ Nd s.heap a /\ Rps c.mg s.heap vs.toList xs t /\ nm[i]? = some x /\ Bd env s.heap x (.ref a) /\ a ∉ t /\ ∀ j,j ≠ i -> a ∉ (vf j).2:=by
 refine nn fun gN=>?_
 obtain ⟨x,h2,h3,h4⟩:=iv.rd.var i _ lv hi
 obtain ⟨a,vs,t,h5,h6,h7,h8⟩:=jIS h4
 obtain ⟨w1,w2,w3,w4⟩:=iv.own1 i _ lv hi h1 a t h6
 refine gN ?_
 clear gN
 exact ⟨a,t,vs,x,h5,h6,h7,w3,h8,h2,h5 ▸ h3,w2,w4⟩
theorem IsList.get {a:Addr} {vs:Array Value} (hl:h.IsList a vs) (hn:Nd h a):∃ o k,h.get? a = some o /\ o.cls = .type "list" /\ o.data = .seq vs k /\ o.dict = none:=by
 refine nn fun gN=>?_
 obtain ⟨o,h1,h2,k,h3⟩:=hl
 obtain ⟨o',vs',k',h4,h5,h6⟩:=hn
 refine gN ?_
 clear gN
 rw [h1] at h4;obtain rfl:=vAy h4
 exact ⟨o,k,h1,h2,h3,h6⟩
theorem IsList.st {a:Addr} {vs:Array Value} {m:Str -> Option Value} (st:St c L s s') (hn:s.heap.Ns L m) (hl:s.heap.IsList a vs):s'.heap.IsList a vs:=by
 obtain ⟨o,h1,h2,k,h3⟩:=hl
 exact ⟨o,st.kp.keep hn h1 (JK h3),h2,k,h3⟩
theorem qDF (h:Den c hm n sc nm e occ f) (hs:autoParam (QC e) yN)
  {g:D × Nat -> Option O} {r:O} {Q:List Value -> Shared -> Prop} 
  (hsc:env.scope = sc) (hR:Room c hm n A l s.heap) (iv:Iv c h0z f0 env nm Z vf s) (hx:Yj (f Z) Z g = some r)
  (hok:∀ d lv,f Z = some (.ok (d,lv)) -> g (d,lv) = some r -> ∀ v fp s',St c env.locals s s' -> Rp c.mg s'.heap v d fp -> Tr c s.heap vf occ fp -> Lv s.heap s'.heap lv fp -> Q [v] s')
  (hexc:∀ x s',PostE c l h0z f0 env nm Z vf s r x s' -> E x s'):wpAny (model c.prog c.w) A (spliced (backTo pos (starEach [e] env))) Q E s:=by
 refine args_cons ?_ (hs _ _)
 refine h.runS hsc hR iv hx (fun d lv e1 e2 v fp s' st rp tr lvl=>?_) hexc
 exact vCg (hok d lv e1 e2 v fp s' st rp tr lvl)
def Xi (o:Expr) (name:Str) (apos:Pos) (args:List Expr) (pos:Pos):Prop:=∀ env,eval (.Call (.Attribute o name apos) args [] pos) env = (do
 let ov <- eval o env
 standAt apos.atName
 let (f,first) <- holding [ov] (getMethod ov name (do return (<- importBound o env).getD true))
 callWith pos f first (backTo pos (starEach args env)) [])
theorem qP {cpos:Pos} (i:Nat) (h:Den c hm n sc nm e occ f) (hx:autoParam (nm[i]? = some x) yL) (hs:autoParam (QC e) yN)
  (hi:autoParam (∀ env:Env,env.scope = sc -> interactive env = false) yE) (hmf:autoParam (Xi (.Name x px) "append" apos [e] cpos) yM) :
  jKM c hm n sc nm (.Expr (.Call (.Attribute (.Name x px) "append" apos) [e] [] cpos) pos) (qHO occ i f):=by
 intro A l env h0z f0 Z vf s r Q E hsF hR iv hf hQ hE
 obtain ⟨m,hn⟩:=iv.rd.ns
 ··refine nn fun gN=>?_
   obtain ⟨xs,lv,hgi,hf⟩:=jKE hf
   obtain ⟨⟨h1,hlen⟩,hf⟩:=ifs hf
   obtain ⟨a,t,vs,x',e1,e2,hl,hnd,hrs,e3,hb,hat,haj⟩:=iv.lst hgi h1
   refine gN ?_
   rw [hx] at e3;obtain rfl:=vAy e3
   refine nn fun gN=>?_
   obtain ⟨o,k,o1,o2,o3,o4⟩:=IsList.get hl hnd
   refine gN ?_
   refine vCZ ?_ (hi env hsF.1)
   refine MethodCall_ (XS iv.rd.fn hb (getMethod_list_append o1 o2 o4 ?_)) (hmf env)
   refine callWith_method1 (qDF h hs hsF.1 hR iv hf (fun d ld _ hg v fp s1z st rp tr lvl=>?_) hE) (hs _ _)
   refine Z7 (IsList.st st hn hl) (hnd.keep st.kp hn) (fun h' hl' hnd' hs'=>?_) (by rw [(by simpa using hrs.length:vs.size = xs.length)];unfold lim at hlen;unfold sizeLine;exact vAz hlen (by decide))
   obtain ⟨oa,za,_⟩:=id hl
   have hrs2:Rps c.mg s1z.heap (vs.push v).toList (xs ++ [d]) (t ++ fp):=by
    rw [Array.toList_push];exact (st.kp.rps hn hrs).append (Rps.one rp)
   unfold qNJ at hg
   split at hg
   ·rename_i hc
    obtain rfl:=vAy hg
    have hfr:∀ b ∈ fp,s.heap.get? b = none /\ Nd s1z.heap b:=by
     intro b hb
     rcases Bool.or_eq_true_iff.mp hc with q | q
     ·rw [rp.flat_fp q] at hb;cases hb
     ·exact (lvl.2 (by simpa using q)).1 b hb
    have hfn:fp.Nodup:=by
     rcases Bool.or_eq_true_iff.mp hc with q | q
     ·rw [rp.flat_fp q];exact .nil
     ·exact (lvl.2 (by simpa using q)).2
    refine hQ _ _ ⟨_,jSM (occ:=occ) (lv':=lv) (t':=t ++ fp) iv st hgi h1 e2 hs' hl' hnd' hrs2 ?_ ?_ (fun _ _ l e=>⟨l,vBI _,e⟩) (vBI _) (.inl ?_) ?_⟩
    ·intro q
     rcases vBK.mp q with q | q
     ·exact hat q
     ·exact (fun b _ q w=>by rw [w,za] at q;exact son q:∀ b ∈ fp,s.heap.get? b = none -> b ≠ a) a q (hfr a q).1 rfl
    ·intro b q
     rcases vBK.mp q with q | q
     ·exact .inl q
     ·exact .inr (.inl (hfr b q).1)
    ·intro b q
     rcases vBK.mp q with q | q
     ·exact .inl q
     ·exact .inr (hfr b q).1
    ·intro q
     refine ⟨vCY.mpr ⟨?_,hfn,?_⟩,fun b q=>?_⟩
     ·have:=(iv.own2 i _ lv hgi q).2
      rw [e2] at this;exact (vCv.mp this).2
     ·rintro b hb b' hb' rfl
      obtain ⟨o,z⟩:=(fun b hb=>by obtain ⟨o,_,_,z,_⟩:=hrs.fp_list b hb;exact ⟨o,z⟩:∀ b ∈ t,∃ o,s.heap.get? b = some o) b hb
      rw [(hfr b hb').1] at z;exact nos z
     ·rcases vBK.mp q with q | q
      ·exact .inl q
      ·exact .inr (hfr b q)
   ·split at hg
    ·exact nos hg
    ·rename_i hc hio
     obtain rfl:=vAy hg
     refine hQ _ _ ⟨_,jSM (occ:=occ) (lv':=1) (t':=t ++ fp) iv st hgi h1 e2 hs' hl' hnd' hrs2 ?_ ?_ (ZE occ Z) h1 (.inr ⟨vBI _,(by simpa using hio:i ∉ occ),fun j d l e hj=>?_⟩) (fun q=>absurd q (by decide))⟩
     ·intro q
      rcases vBK.mp q with q | q
      ·exact hat q
      ·rcases tr a q with w | ⟨j,hj,w⟩ | w
       ·exact (fun b _ q w=>by rw [w,za] at q;exact son q:∀ b ∈ fp,s.heap.get? b = none -> b ≠ a) a q w rfl
       ·exact haj j (fun z=>(by simpa using hio:i ∉ occ) (z ▸ hj)) w
       ·obtain ⟨o',e'⟩:=w.1
        have e':=iv.bh a o' e'
        rw [(iv.own1 i _ lv hgi h1 a t e2).1] at e';exact nos e'
     ·intro b q
      rcases vBK.mp q with q | q
      ·exact .inl q
      ·exact .inr (tr b q)
     ·obtain ⟨_,_,_,z⟩:=jF e
      exact z hj
theorem Iv.iter (iv:Iv c h0z f0 env nm Z vf s) (hIo:∃ o T,s.heap.get? I = some o /\ o.cls = .type T /\ T ≠ "list" /\ T ≠ "tuple") (hM:¬ Mut env Z vf I) (hk:∀ b o,b ∉ [I] -> s.heap.get? b = some o -> h'.get? b = some o) (htk:1 <= tk)
  (hI0:h0z.get? I = none):Iv c h0z f0 env nm Z vf { s with heap:=h',toks:=tk }:=by
 refine nn fun gN=>?_
 obtain ⟨m,hn⟩:=iv.rd.ns
 obtain ⟨oI,T,i1,i3,i4,i5⟩:=hIo
 have hk':∀ b o,b ≠ I -> s.heap.get? b = some o -> h'.get? b = some o:=fun b o hb e=>hk b o (by simpa using hb) e
 have hL:env.locals ≠ I:=fun q=>hM (.inl q.symm)
 have hcl:∀ y,env.cells.lookup y ≠ some I:=fun y q=>hM (.inr (.inl ⟨y,q⟩))
 have hlist:∀ a o vs k,s.heap.get? a = some o -> o.cls = .type "list" -> o.data = .seq vs k -> a ≠ I:=fun a o vs k e1 e2 e3 q=>by
  rw [q,i1] at e1;obtain rfl:=vAy e1
  rw [i3] at e2;injection e2 with z;exact i4 z
 have keepR:∀ {w e g},Rp c.mg s.heap w e g -> Rp c.mg h' w e g:=fun {w e g} r =>
  r.keepOn (W:=fun b=>b = I) (fun b o hb e _=>hk' b o hb e) (fun b o hb e=>⟨T,by obtain rfl:=hb.symm;rw [i1] at e;obtain rfl:=vAy e;exact i3,i5⟩) fun a ha=>by
   obtain ⟨o,vs,k,e1,e2,e3⟩:=r.fp_list a ha
   exact hlist a o vs k e1 e2 e3
 have hndI:∀ i a,a ∈ (vf i).2 -> Nd s.heap a -> Nd h' a:=fun i a ha ⟨o,vs,k,e1,e2,e3⟩=>by
  obtain ⟨o',vs',k',z1,z2,z3⟩:=iv.al i a ha
  exact ⟨o,vs,k,hk' a o (hlist a o' vs' k' z1 z2 z3) e1,e2,e3⟩
 refine gN ?_
 clear gN
 refine ⟨⟨⟨fun b o e=>hk' b o (fun q=>by rw [q,iv.nb hI0] at e;exact nos e) (iv.rd.bs.1 b o e),htk⟩,⟨m,hn.at' fun o e=>hk' _ o hL e⟩,iv.rd.nb,iv.rd.fn,iv.rd.gl,iv.rd.bl,iv.rd.cl,fun i d lv e=>?_⟩,
  fun b o _ e=>?_,iv.nl,fun y a e=>?_,iv.cd,iv.nd,fun i a ha=>?_,iv.org,fun i d lv e q a t r=>?_,fun i d lv e q=>?_,iv.bh⟩
 ·refine nn fun gN=>?_
  obtain ⟨y,h1,⟨b1,b2,b3⟩,h3⟩:=iv.rd.var i d lv e
  refine gN ?_
  clear gN
  refine ⟨y,h1,⟨b1,b2,?_⟩,keepR h3⟩
  rcases b3 with ⟨b4,m'',b5,b6⟩ | ⟨b4,cl,b5,o,b6,b7⟩
  ·exact .inl ⟨b4,m'',b5.at' fun o e=>hk' _ o hL e,b6⟩
  ·exact .inr ⟨b4,cl,b5,o,hk' cl o (fun q=>hcl y (q ▸ b5)) b6,b7⟩
 ·obtain ⟨h1,sl,h2⟩:=iv.kb b o id e
  have hb:b ≠ I:=fun q=>by rw [q,hI0] at e;exact nos e
  exact ⟨fun nd=>hk' b o hb (h1 nd),sl,hk' b _ hb h2⟩
 ·refine nn fun gN=>?_
  obtain ⟨h1,v,o,h2,h3⟩:=iv.ce y a e
  refine gN ?_
  clear gN
  exact ⟨h1,v,o,hk' a o (fun q=>hcl y (q ▸ e)) h2,h3⟩
 ·refine nn fun gN=>?_
  obtain ⟨o,vs,j,h1,h2,h3⟩:=iv.al i a ha
  refine gN ?_
  clear gN
  exact ⟨o,vs,j,hk' a o (hlist a o vs j h1 h2 h3) h1,h2,h3⟩
 ·refine nn fun gN=>?_
  obtain ⟨h1,h2,h3,h4⟩:=iv.own1 i d lv e q a t r
  refine gN ?_
  clear gN
  exact ⟨h1,h2,hndI i a (by rw [r];exact vBA ..) h3,h4⟩
 ·obtain ⟨h1,h2⟩:=iv.own2 i d lv e q
  refine ⟨fun a ha=>?_,h2⟩
  obtain ⟨w0,w1,w4⟩:=h1 a ha
  exact ⟨w0,hndI i a ha w1,w4⟩
theorem Stp.iter (x:Stp c h0z f0 env nm Z vf s Z' vf' s') (hI:s.heap.get? I = none) (hIo:ItObj s'.heap I) (hM:¬ Mut env Z' vf' I) (hk:∀ b o,b ∉ [I] -> s'.heap.get? b = some o -> h'.get? b = some o) (htk:1 <= tk)
  (hI0:h0z.get? I = none):Stp c h0z f0 env nm Z vf s Z' vf' { s' with heap:=h',toks:=tk }:=by
 have hk':∀ b o,b ≠ I -> s'.heap.get? b = some o -> h'.get? b = some o:=fun b o hb e=>hk b o (by simpa using hb) e
 refine ⟨x.iv.iter (let ⟨o,T,a,_,b,c,d⟩:=hIo;⟨o,T,a,b,c,d⟩) hM hk htk hI0,?_,fun b o hb e=>?_,x.gr,fun b hb=>?_⟩
 ·obtain ⟨h,tk',q⟩:=x.same
  exact ⟨h',tk,by rw [q]⟩
 ·obtain ⟨h1,sl,h2⟩:=x.kp b o hb e
  have hbC:b ≠ I:=fun q=>by rw [q,hI] at e;exact nos e
  exact ⟨fun nd=>hk' b o hbC (h1 nd),sl,hk' b _ hbC h2⟩
 ·by_cases q:b = I
  ·rw [q];exact hI
  ·refine x.ex b ?_
   cases e:s'.heap.get? b with
   | none=>rfl
   | some o=>have:=hk' b o q e;dsimp only at hb;rw [hb] at this;exact nos this
def JZ (d:D):Nat:=if d.flat then 2 else 0
noncomputable def lpF (r:Option O) (k:Th):Option O:=match r with
 | some (.next Z')=>k Z'
 | some (.cont Z')=>k Z'
 | some (.brk Z')=>some (.next Z')
 | some (.ret d lv)=>some (.ret d lv)
 | _=>none
def Ym (fB:Th) (ix:Nat):List D -> Th
 | [],Z=>some (.next Z)
 | x :: xs,Z=>lpF (fB (Z.set ix (some (x,JZ x)))) (Ym fB ix xs)
theorem jGK (fB:Th) (ix:Nat) (x:D) (xs:List D) (Z:G):Ym fB ix (x :: xs) Z = lpF (fB (Z.set ix (some (x,JZ x)))) (Ym fB ix xs):=rfl
def jLT (occ:List Nat) (ix:Nat) (fI:G -> Option (R (List D))) (fB:Th) (Z:G):Option O:=Yj (fI Z) Z fun xs=>Ym fB ix xs (JX occ Z)
inductive FInv (S:G -> (Tb) -> Shared -> Prop) (W:Nat -> Heap -> Prop) (F:List D -> Th) (r:O) (xs:List D) (K:Heap -> Prop) (Ow:G -> (Tb) -> Prop) (h2z:Heap) (s':Shared) (k:Nat):Prop
 | mk {i:Nat} {Ziz:G} {vfi:Tb} (sp:S Ziz vfi s') (hWi:W i s'.heap) (hl:F (xs.drop i) Ziz = some r) (hi:i <= xs.length) (hkp:K s'.heap) (hgr:Ow Ziz vfi) (hex:∀ b,s'.heap.get? b = none -> h2z.get? b = none) (hk:k = xs.length + 1 - i):FInv S W F r xs K Ow h2z s' k
theorem Ye {iter:Expr} (ix:Nat)
  (hI:DenIt c false n sc nm iter occ fI) (hB:kn c false n sc nm body fB) (hx:autoParam (nm[ix]? = some x) yL) (hk:autoParam (stK sc x = true) yK) (ho:autoParam (jNN x = true) yK)
  (hfs:autoParam (∀ env v,foldedSetIterable iter env v = pure v) yN) :
  jKM c false n sc nm (.For (.Name x px) iter body [] pos) (jLT occ ix fI fB):=by
 intro A l env h0z f0 Z vf s r Q E hsF hR iv hf hQ hE
 obtain ⟨m,hn⟩:=iv.rd.ns
 refine wpAny_For ?_ (hfs env)
 unfold jLT at hf
 rcases (vu hf).symm with ⟨k,h1,rfl⟩ | ⟨xs,h1,h2⟩
 ·exact hI A l env Z vf s _ _ E hsF.1 hR iv.rd h1 (fun xs I s' e=>rnx e) fun x k' s' e fl=>by cases e;exact hE x s' ⟨vf,s,iv.step (St.refl iv.rd.bs),fl⟩
 refine hI A l env Z vf s _ _ E hsF.1 hR iv.rd h1 (fun xs' I s2z e it=>?_) fun x k' s' e=>rno e
 cases e
 obtain ⟨fp,P,W,fpA,st,hW,h0,hIn,hfp,hWI,hfpA,hTr,hAl,hlen,hit⟩:=it
 have hA:∀ b ∈ fpA,¬ Mut env (JX occ Z) vf b:=by
  intro b hb hM
  obtain ⟨o,e1,e2⟩:=hAl b hb
  rcases hM with rfl | ⟨y,hy⟩ | ⟨j,d,lv,e3,e4⟩
  ·rcases hTr _ hb with q | ⟨j,_,q⟩ | q
   ·obtain ⟨o',_,_,z,_⟩:=hn;rw [q] at z;exact nos z
   ·obtain ⟨o',vs,k,z1,_,z3⟩:=iv.al j _ q
    exact zB hn z1 (JK z3) rfl
   ·exact q.1.elim fun o' e'=>by (rw [iv.rd.nb] at e';exact nos e')
  ·obtain ⟨_,v,o',z1,z2⟩:=iv.ce y b hy
   rcases hTr _ hb with q | ⟨j,_,q⟩ | q
   ·rw [q] at z1;exact nos z1
   ·obtain ⟨o'',vs,k,y1,_,y3⟩:=iv.al j _ q
    rw [z1] at y1;obtain rfl:=vAy y1;rw [z2] at y3;cases y3
   ·exact q.1.elim fun o' e'=>by (have e':=iv.bh b o' e';rw [(iv.ce y b hy).1] at e';exact nos e')
  ·obtain ⟨lv',w1,w2,w3⟩:=jF e3
   have hbj:b ∈ (vf j).2:=by
    rcases e4 with ⟨_,t,q⟩ | ⟨_,q⟩
    ·rw [q];exact vBA ..
    ·exact q
   rcases hTr _ hb with q | ⟨j',hj',q⟩ | q
   ·obtain ⟨o',_,_,z,_⟩:=iv.al j b hbj;rw [q] at z;exact nos z
   ·have hjj:j' ≠ j:=fun z=>by
     obtain rfl:=z.symm
     have:=w3 hj'
     rcases e4 with ⟨y,_⟩ | ⟨y,_⟩ <;> exact absurd (w3 hj') (Nat.ne_of_gt (vCP (vBr _) y))
    rcases e4 with ⟨y,t,z⟩ | ⟨y,z⟩
    ·exact (iv.own1 j d lv' w2 (vAz y w1) b t z).2.2.2 j' hjj q
    ·exact ((iv.own2 j d lv' w2 (vAz y w1)).1 b z).2.2 j' hjj q
   ·obtain ⟨o',e'⟩:=q.1
    have e':=iv.bh b o' e'
    rcases e4 with ⟨y,t,z⟩ | ⟨y,z⟩
    ·rw [(iv.own1 j d lv' w2 (vAz y w1) b t z).1] at e';exact nos e'
    ·rw [((iv.own2 j d lv' w2 (vAz y w1)).1 b z).1] at e';exact nos e'
 have hIM:¬ Mut env (JX occ Z) vf I:=by
  rintro (rfl | ⟨y,hy⟩ | ho)
  ·obtain ⟨o',_,_,z,_⟩:=hn;rw [hIn] at z;exact nos z
  ·obtain ⟨_,v,o',z1,z2⟩:=iv.ce y I hy;rw [hIn] at z1;exact nos z1
  ·obtain ⟨⟨o',_,_,z,_⟩,_⟩:=(ho.wk (ZE occ Z)).lst iv;rw [hIn] at z;exact nos z
 have hAo:∀ a ∈ fpA,h0z.get? a = none \/ a ∈ f0 \/ Fz c a:=fun a ha=>by
  rcases hTr a ha with q | ⟨j,_,q⟩ | q
  ·exact .inl (iv.fresh q)
  ·exact iv.org j a q
  ·exact .inr (.inr q)
 have hmut:∀ Ziz vfi,(∀ b,Own Ziz vfi b -> Own (JX occ Z) vf b \/ s2z.heap.get? b = none) -> ∀ b o,s2z.heap.get? b = some o -> ¬ Mut env (JX occ Z) vf b -> ¬ Mut env Ziz vfi b:=by
  rintro Ziz vfi hg b o e hM (q | q | q)
  ·exact hM (.inl q)
  ·exact hM (.inr (.inl q))
  ·rcases hg b q with w | w
   ·exact hM (.inr (.inr w))
   ·rw [e] at w;cases w
 have hitem:∀ h',KpP (fun b=>b = I \/ Mut env (JX occ Z) vf b) s2z.heap h' -> ∀ i v d,P i v -> xs[i]? = some d -> ∃ g,Rp c.mg h' v d g /\ ∀ a ∈ g,a ∈ fpA:=by
  intro h' hk i v d hp hd
  obtain ⟨g,rg,hg⟩:=hit i v d hp hd
  refine ⟨g,?_,hg⟩
  refine nn fun gN=>?_
  obtain ⟨oI,T,i1,i2,i3,i4,i5⟩:=(hWI 0 _ h0:ItObj s2z.heap I)
  refine gN ?_
  clear gN
  refine (qA (W:=fun b=>b = I \/ Mut env (JX occ Z) vf b) (fun b o hb e nd=>(hk b o hb e).1 nd) ?_ ?_).1 rg fun a ha=>?_
  ·rintro b o vs k (rfl | hM) e hc hd
   ·rw [i1] at e;obtain rfl:=vAy e
    rw [i3] at hc;injection hc with z;exact i5 z
   ·rcases hM.kind ((iv.step st).trans ((iv.keep st).wkS (ZE occ Z)):Stp c h0z f0 env nm Z vf s (JX occ Z) vf s2z).iv e with ⟨_,_,_,q⟩ | ⟨_,q⟩ | ⟨_,q,_⟩
    ·rw [hd] at q;cases q
    ·rw [hd] at q;cases q
    ·rw [hc] at q;injection q with z;exact absurd z (by decide)
  ·rintro b o vs C (rfl | hM) e hc hd
   ·rw [i1] at e;obtain rfl:=vAy e
    rw [i3] at hc;cases hc
   ·rcases hM.kind ((iv.step st).trans ((iv.keep st).wkS (ZE occ Z)):Stp c h0z f0 env nm Z vf s (JX occ Z) vf s2z).iv e with ⟨_,_,_,q⟩ | ⟨_,q⟩ | ⟨_,_,_,_,q⟩ <;> (rw [hd] at q;cases q)
  ·rintro (q | hM)
   ·obtain ⟨o,e1,e2⟩:=hAl a (hg a ha)
    rw [q,i1] at e1;obtain rfl:=vAy e1
    rw [i3] at e2;injection e2 with z;exact i4 z
   ·exact hA a (hg a ha) hM
 refine codeAny_forLoop_any (fun k s'=>FInv (fun Ziz vfi s'=>Stp c h0z f0 env nm Z vf s Ziz vfi s') W (Ym fB ix) r xs (fun h'=>KpP (fun b=>b = I \/ Mut env (JX occ Z) vf b) s2z.heap h') (fun Ziz vfi=>∀ b,Own Ziz vfi b -> Own (JX occ Z) vf b \/ s2z.heap.get? b = none) s2z.heap s' k) ?_ (xs.length + 1) ?_
 ·rintro k s' ⟨sp,hWi,hl,hi,hkp,hgr,hexi,hkk⟩
  refine nn fun gN=>?_
  rename_i i Ziz vfi
  have ivi:=sp.iv
  obtain ⟨oI2,_,hI2e,_⟩:=id (hWI 0 _ h0:ItObj s2z.heap I)
  have hAi:∀ b ∈ fpA,¬ Mut env Ziz vfi b:=fun b hb=>by
   obtain ⟨o,e1,_⟩:=hAl b hb
   exact hmut Ziz vfi hgr b o e1 (hA b hb)
  refine gN ?_
  clear gN
  by_cases hlt:i < xs.length
  ·refine wpAny_with_toks sp.iv.rd.bs.2 (hW.item i _ _ _ hlt hWi fun v h2z tk2z hPv hW2 hk2z ht2=>?_)
   refine nn fun gN=>?_
   dsimp only at ht2
   have sp2z:=sp.iter hIn (hWI i _ hWi) (hmut Ziz vfi hgr I oI2 hI2e hIM:¬ Mut env Ziz vfi I) hk2z ht2 (iv.fresh hIn)
   have hd:∃ d,xs[i]? = some d:=⟨xs[i],by simp [hlt]⟩
   obtain ⟨d,hd⟩:=hd
   rw [List.drop_eq_getElem_cons hlt] at hl
   rw [(by have:=vBP hlt;rw [hd] at this;exact (vAy this).symm:xs[i] = d),jGK] at hl
   have hkp2:KpP (fun b=>b = I \/ Mut env (JX occ Z) vf b) s2z.heap h2z:=hkp.trans (Q:=fun b=>b = I) (KpP.of_but fun b o hb e=>hk2z b o (by simpa using hb) e) fun b o _ hP q=>hP (.inl q)
   obtain ⟨g,rg,hg⟩:=hitem h2z hkp2 i v d hPv hd
   refine gN ?_
   clear gN
   refine vBM ?_
   refine vCU (jGD (lv:=JZ d) (Zbz:=Ziz) sp2z.iv (St.refl sp2z.iv.rd.bs) rg (fun j d l e=>⟨l,vBI _,e⟩) (fun a ha=>hAo a (hg a ha)) ?_ ?_ ?_ hsF.1 hx hk ho fun s3z sp3 hkeep3=>?_)
   ·intro h1 a t e
    unfold JZ at h1
    split at h1
    ·rename_i hfl;rw [rg.flat_fp hfl] at e;cases e
    ·exact absurd h1 (vBX _)
   ·intro h1
    unfold JZ at h1
    split at h1
    ·rename_i hfl;rw [rg.flat_fp hfl];exact ⟨fun _ h=>(nomatch h),.nil⟩
    ·exact absurd h1 (vBX _)
   ·intro b j d' l' hj e h hb
    exact hAi b (hg b hb) (.inr (.inr ⟨j,d',l',e,h⟩))
   have sp23:=sp2z.trans sp3
   have hex2:∀ b,h2z.get? b = none -> s2z.heap.get? b = none:=fun b hb=>by
    by_cases q:b = I
    ·obtain ⟨oI,_,z,_⟩:=hWI (i + 1) _ hW2;rw [q,z] at hb;exact son hb
    ·refine hexi b ?_
     cases e:s'.heap.get? b with
     | none=>rfl
     | some o=>have:=hk2z b o (by simpa using q) e;rw [hb] at this;exact nos this
   have hgr3:∀ b,Own (Ziz.set ix (some (d,JZ d))) (fun j=>if j = ix then (v,g) else vfi j) b -> Own (JX occ Z) vf b \/ s2z.heap.get? b = none:=fun b hb=>by
    rcases sp3.gr b hb with q | q
    ·exact hgr b q
    ·exact .inr (hex2 b q)
   have hprot:∀ b ∈ fp,∀ Zjz vfj,(∀ b,Own Zjz vfj b -> Own (JX occ Z) vf b \/ s2z.heap.get? b = none) -> ¬ Mut env Zjz vfj b:=fun b hb Zjz vfj hg=>by
    rcases hfpA rfl b hb with rfl | w
    ·exact hmut Zjz vfj hg b oI2 hI2e hIM
    ·obtain ⟨o,e1,_⟩:=hAl b w
     exact hmut Zjz vfj hg b o e1 (hA b w)
   have hfpn:∀ (j:Nat) (hh:Heap),W j hh -> KpP (fun b=>b = I \/ Mut env (JX occ Z) vf b) s2z.heap hh -> ∀ b ∈ fp,∀ o,hh.get? b = some o -> JW o:=fun j hh hWj hk b hb o e=>by
    by_cases q:b = I
    ·obtain rfl:=q.symm
     obtain ⟨o',T,e',nd,_⟩:=hWI j hh hWj
     rw [e] at e';obtain rfl:=vAy e';exact nd
    ·obtain ⟨o',e',nd⟩:=hfp b hb q
     have:=(hk b o' (fun z=>z.elim q (hprot b hb _ _ fun b hb=>.inl hb:¬ Mut env (JX occ Z) vf b)) e').1 nd
     rw [e] at this;obtain rfl:=vAy this;exact nd
   have hW3:W (i + 1) s3z.heap:=hW.frame _ _ _ hW2 fun b hb o e=>(sp3.kp b o (hprot b hb _ _ hgr) e).1 (hfpn (i + 1) _ hW2 hkp2 b hb o e)
   cases hfb:fB (Ziz.set ix (some (d,JZ d))) with
   | none=>rw [hfb] at hl;exact nos hl
   | some o =>
    rw [hfb] at hl
    have cont:∀ Z' vf' s4z,Stp c h0z f0 env nm (Ziz.set ix (some (d,JZ d))) (fun j=>if j = ix then (v,g) else vfi j) s3z Z' vf' s4z -> Ym fB ix (xs.drop (i + 1)) Z' = some r -> 
      ∃ m,m < k /\ FInv (fun Ziz vfi s'=>Stp c h0z f0 env nm Z vf s Ziz vfi s') W (Ym fB ix) r xs (fun h'=>KpP (fun b=>b = I \/ Mut env (JX occ Z) vf b) s2z.heap h') (fun Ziz vfi=>∀ b,Own Ziz vfi b -> Own (JX occ Z) vf b \/ s2z.heap.get? b = none) s2z.heap s4z m:=by
     intro Z' vf' s4z sp4z hl'
     refine ⟨xs.length + 1 - (i + 1),by rw [hkk];exact Nat.sub_lt_sub_left (Nat.lt_succ_of_lt hlt) (vCd i),.mk (sp23.trans sp4z) ?_ hl' hlt ?_ (fun b hb=>?_) (fun b hb=>(fun b hb=>hex2 b (sp3.ex b hb):∀ b,s3z.heap.get? b = none -> s2z.heap.get? b = none) b (sp4z.ex b hb)) rfl⟩
     ·exact hW.frame _ _ _ hW3 fun b hb o e=>(sp4z.kp b o (hprot b hb _ _ hgr3) e).1 (hfpn (i + 1) _ hW3 (hkp2.trans sp3.kp fun b o e hP=>hmut Ziz vfi hgr b o e fun q=>hP (.inr q):KpP (fun b=>b = I \/ Mut env (JX occ Z) vf b) s2z.heap s3z.heap) b hb o e)
     ·exact (hkp2.trans sp3.kp fun b o e hP=>hmut Ziz vfi hgr b o e fun q=>hP (.inr q):KpP (fun b=>b = I \/ Mut env (JX occ Z) vf b) s2z.heap s3z.heap).trans sp4z.kp fun b o e hP=>hmut _ _ hgr3 b o e fun q=>hP (.inr q)
     ·rcases sp4z.gr b hb with q | q
      ·exact hgr3 b q
      ·exact .inr ((fun b hb=>hex2 b (sp3.ex b hb):∀ b,s3z.heap.get? b = none -> s2z.heap.get? b = none) b q)
    refine hB A l env h0z f0 _ _ s3z o _ _ hsF (sp23.room iv hR) sp3.iv hfb (fun w s4z p=>?_) (fun y s4z p=>?_)
    ·cases o with
     | next Z' =>
      cases w <;> first | exact p.elim | skip
      obtain ⟨vf',p⟩:=p
      exact cont Z' vf' s4z p hl
     | cont Z' =>
      cases w <;> first | exact p.elim | skip
      obtain ⟨vf',p⟩:=p
      exact cont Z' vf' s4z p hl
     | brk Z' =>
      cases w <;> first | exact p.elim | skip
      refine nn fun gN=>?_
      obtain ⟨vf',p⟩:=p
      refine gN ?_
      clear gN
      exact hQ _ _ (by rw [<- (vAy hl)];exact ⟨vf',sp23.trans p⟩)
     | ret d lv =>
      cases w <;> first | exact p.elim | skip
      exact hQ _ _ (by rw [<- (vAy hl)];exact (Post.back (nm:=nm) (o:=.ret d lv) (f:=.ret _) sp23 p))
     | exc k Z'=>exact nos hl
     | raise k=>exact nos hl
    ·cases o <;> first | exact p.elim | cases hl
  ·refine nn fun gN=>?_
   rw [(by exact vCI hi (vBy hlt):i = xs.length),List.drop_length] at hl
   refine gN ?_
   clear gN
   refine wpAny_with_toks sp.iv.rd.bs.2 (hW.done _ _ _ ((by exact vCI hi (vBy hlt):i = xs.length) ▸ hWi) fun h2z tk2z hk2z ht2=>?_)
   exact vBp (hQ _ _ (by rw [<- (vAy hl)];exact ⟨vfi,sp.iter hIn (hWI i _ hWi) (hmut Ziz vfi hgr I oI2 hI2e hIM:¬ Mut env Ziz vfi I) hk2z ht2 (iv.fresh hIn)⟩))
 ·exact FInv.mk (i:=0) ((iv.step st).trans ((iv.keep st).wkS (ZE occ Z)):Stp c h0z f0 env nm Z vf s (JX occ Z) vf s2z) h0 h2 (vBz _) (KpP.refl _ _) (fun b hb=>.inl hb) (fun b hb=>hb) rfl
def Zp (fT:G -> Option (R Bool)) (fB:Th):Nat -> Th
 | 0,_=>none
 | k + 1,Z=>okR (fT Z) fun b=>cond b (lpF (fB Z) (Zp fT fB k)) (some (.next Z))
theorem xg (fT:G -> Option (R Bool)) (fB:Th) (k:Nat) (Z:G):Zp fT fB (k + 1) Z = okR (fT Z) fun b=>cond b (lpF (fB Z) (Zp fT fB k)) (some (.next Z)):=rfl
theorem jGT (fuel:Nat) (hT:DenB c hm n sc nm test fT) (hB:kn c hm n sc nm body fB) :
  jKM c hm n sc nm (.While test body [] pos) (Zp fT fB fuel):=by
 intro A l env h0z f0 Z vf s r Q E hsF hR iv hf hQ hE
 refine wpAny_While ?_
 refine codeAny_whileLoop (fun k s'=>∃ Ziz vfi,Stp c h0z f0 env nm Z vf s Ziz vfi s' /\ Zp fT fB k Ziz = some r) ?_ fuel ⟨Z,vf,iv.step (St.refl iv.rd.bs),hf⟩
 rintro k s' ⟨Ziz,vfi,sp,hw⟩
 cases k with
 | zero=>exact nos hw
 | succ k =>
  rw [xg] at hw
  cases hft:fT Ziz with
  | none=>rw [hft] at hw;exact nos hw
  | some rb =>
   rw [hft] at hw
   cases rb with
   | exc k=>exact nos hw
   | ok b =>
    refine hT A l env Ziz vfi s' _ _ _ hsF.1 (sp.room iv hR) sp.iv.rd hft (fun b' s1z e st=>?_) (fun x k s' e=>rno e)
    cases e
    have sp1:=sp.trans (sp.iv.step st)
    cases b with
    | false =>
     exact vBp (hQ _ _ (by rw [<- (vAy hw)];exact ⟨vfi,sp1⟩))
    | true =>
     simp only [if_true]
     have hw:lpF (fB Ziz) (Zp fT fB k) = some r:=hw
     cases hfb:fB Ziz with
     | none=>rw [hfb] at hw;exact nos hw
     | some o =>
      rw [hfb] at hw
      refine hB A l env h0z f0 Ziz vfi s1z o _ _ hsF (sp1.room iv hR) sp1.iv hfb (fun w s4z p=>?_) (fun y s4z p=>?_)
      ·cases o with
       | next Z' =>
        cases w <;> first | exact p.elim | skip
        obtain ⟨vf',p⟩:=p
        exact ⟨k,vCd _,Z',vf',sp1.trans p,hw⟩
       | cont Z' =>
        cases w <;> first | exact p.elim | skip
        obtain ⟨vf',p⟩:=p
        exact ⟨k,vCd _,Z',vf',sp1.trans p,hw⟩
       | brk Z' =>
        cases w <;> first | exact p.elim | skip
        refine nn fun gN=>?_
        obtain ⟨vf',p⟩:=p
        refine gN ?_
        exact hQ _ _ (by rw [<- (vAy hw)];exact ⟨vf',sp1.trans p⟩)
       | ret d lv =>
        cases w <;> first | exact p.elim | skip
        exact hQ _ _ (by rw [<- (vAy hw)];exact (Post.back (nm:=nm) (o:=.ret d lv) (f:=.ret _) sp1 p))
       | exc k Z'=>exact nos hw
       | raise k=>exact nos hw
      ·cases o <;> first | exact p.elim | cases hw
end
def Cx0 (h:Heap) (e:Addr):Prop:=∃ o vs,h.get? e = some o /\ o.data = .fields vs /\ vs[2]? = some .none /\ o.dict = none
theorem jFL (f:Array Value -> Array Value):∀ o:Obj,(Obj.mapFields f o).dict = o.dict:=by
 intro o
 obtain ⟨a,b,d,e⟩:=o
 cases d <;> rfl
section
variable {s:Shared} {base:Heap} {outer:List Env} {e:Addr}
theorem qER {vs:Array Value} {head:Value} {hadNext:Bool} 
  (hfr:A.frames = some (env :: outer)) (hl:s.heap.FunFrames base (env :: outer)) (hf:env.frame = some L)
  (he:s.heap.get? e = some oe) (hkb:base.StaysIn s.heap) (hen:base.get? e = none) (hd:oe.data = .fields vs) (hsz:1 < vs.size) (h0:vs[0]? = some a0) (h2:vs[2]? = some .none) (h4:oe.dict = none)
  (h:∀ h',Heap.NotedW base (env :: outer) e oe.cls a0 (rawInt L) s.heap h' -> Cx0 h' e -> Q () { s with heap:=h' }) :
  wpAny M A (do let a <- frameOf env;let pl <- entryPlaceOf L hadNext;let b <- EntryCells.newEntry head a .none (rawInt L) .none pl;setField (.ref e) 1 b) Q E s:=by
 have hene:e ∉ (env :: outer).filterMap (·.frame):=fun hm=>by
  obtain ⟨_,o,ho,hnf⟩:=hl.mem hm
  rw [he] at ho;obtain rfl:=vAy ho;exact hnf vs hd
 refine vBE (wpAny_frameOf_fun hfr hl hf fun h1z hs1z=>?_)
 refine vBE (wpAny_entryPlaceOf fun pl hpl=>?_)
 unfold EntryCells.newEntry newFields
 refine vBE (vBm ?_ (hpl.sizeOk5 _ _ _ _ _))
 have kb1:base.StaysIn h1z:=fun b o hbo=>(hs1z.2.1 b fun hm=>by rw [(hl.mem hm).1] at hbo;exact nos hbo).trans (hkb b o hbo)
 generalize hob:({ cls:=.type "traceback",dict:=none,data:=.fields ([head,.ref L,.none,rawInt L,.none] ++ (if pl.isEmpty then List.replicate 6 Value.none else pl)).toArray }:Obj) = ob
 refine wpAny_setField (vBB (h:=h1z) ob ((hs1z.2.1 e hene).trans he:h1z.get? e = some oe)) hd hsz (h _ ?_ ?_)
 ·have keep:∀ b o,b ≠ e -> h1z.get? b = some o -> ((h1z.push ob).update e (Obj.mapFields (·.setIfInBounds 1 (Value.ref h1z.objs.size)))).get? b = some o:=fun b o hbe hb=>by
   rw [vBx _ _ (Ne.symm hbe)]
   exact vBB _ hb
  have noRecord:∀ b o,s.heap.get? b = some o -> (∀ vs,o.data ≠ .fields vs) -> b ≠ e:=fun b o hb hnf q=>by
   rw [q,he] at hb;obtain rfl:=vAy hb;exact hnf vs hd
  refine ⟨fun b o hbo=>keep b o (fun q=>by rw [q,hen] at hbo;exact nos hbo) (kb1 b o hbo),hl.of_keeps fun b o hb hnf=>?_,?_,fun b o hb hnf=>?_⟩
  ·obtain ⟨sl,hs⟩:=hs1z.2.2 b o hb
   exact ⟨_,keep b _ (noRecord b o hb hnf) hs,rfl⟩
  ·exact ⟨_,_,h1z.objs.size,_,_,(vBf (Obj.mapFields (·.setIfInBounds 1 (Value.ref h1z.objs.size))) (vBB (h:=h1z) ob ((hs1z.2.1 e hene).trans he:h1z.get? e = some oe)) (Obj.isFreed_of_fields (vCm hd (·.setIfInBounds 1 (Value.ref h1z.objs.size))))),⟨Obj.cls_mapFields _ _,by rw [Array.getElem?_setIfInBounds_ne (by decide)];exact h0⟩,(vCm hd (·.setIfInBounds 1 (Value.ref h1z.objs.size))),by simp [hsz],kb1.fresh,(Nat.ne_of_gt (vBb ((hs1z.2.1 e hene).trans he:h1z.get? e = some oe)):h1z.objs.size ≠ e),((vBx (h1z.push ob) (Obj.mapFields (·.setIfInBounds 1 (Value.ref h1z.objs.size))) (Ne.symm (Nat.ne_of_gt (vBb ((hs1z.2.1 e hene).trans he:h1z.get? e = some oe)):h1z.objs.size ≠ e))).trans (vBL h1z (by rw [<- hob];rfl))),by rw [<- hob],by first | (simp;done) | (rcases hpl with rfl | ⟨_,_,_,_,_,_,_,rfl⟩ <;> simp)⟩
  ·obtain ⟨sl,hs⟩:=hs1z.2.2 b o hb
   exact ⟨sl,keep b _ (noRecord b o hb hnf) hs⟩
 ·exact ⟨_,_,vBf _ (vBB (h:=h1z) ob ((hs1z.2.1 e hene).trans he:h1z.get? e = some oe)) (Obj.isFreed_of_fields (vCm hd (·.setIfInBounds 1 (Value.ref h1z.objs.size)))),(vCm hd (·.setIfInBounds 1 (Value.ref h1z.objs.size))),by rw [Array.getElem?_setIfInBounds_ne (by decide)];exact h2,(jFL ..).trans h4⟩
theorem qJL 
  (hfr:A.frames = some (env :: outer)) (hf:env.frame = some L) (hfl:Heap.FlyingW base (env :: outer) e cls a0 s.heap) (hc:Cx0 s.heap e)
  (hQ:∀ h',Heap.HeldW base (env :: outer) e cls a0 L h' -> Cx0 h' e -> s.heap.UpToSlots h' -> Q () { s with heap:=h' }):wpAny M A (noteFrame (.ref e) env) Q E s:=by
 refine nn fun gN=>?_
 obtain ⟨hkb,hen,hl,oe,vs,T,oT,ts,he,⟨hcls,h0⟩,hd,h1,hnT,hTe,hT,hdT,h3⟩:=hfl
 obtain ⟨o',vs',c1,c2,c3,c4⟩:=hc
 refine gN ?_
 clear gN
 rw [he] at c1;obtain rfl:=vAy c1
 rw [hd] at c2;cases c2
 subst hcls
 unfold noteFrame
 simp only [hf]
 refine vBE (vCH he hd h1 ?_)
 rw [if_pos (show (Value.ref T != Value.none) = true from by simp)]
 refine vBE (vCH hT hdT h3 ?_)
 rw [if_neg (show ¬ ((Value.none == rawInt L) = true) from by simp [rawInt])]
 refine vBE (wpAny_setField hT hdT (vCl.mp h3).1 ?_)
 have other:∀ b,b ≠ T -> (s.heap.update T (Obj.mapFields (·.setIfInBounds 3 Value.none))).get? b = s.heap.get? b:=fun b hb=>vBx _ _ (Ne.symm hb)
 have noRecord:∀ b o,s.heap.get? b = some o -> (∀ vs,o.data ≠ .fields vs) -> b ≠ T:=fun b o hb hnf q=>by
  rw [q,hT] at hb;obtain rfl:=vAy hb;exact hnf ts hdT
 refine qER hfr (hl.of_keeps fun b o hb hnf=>⟨o,(other b (noRecord b o hb hnf)).trans hb,rfl⟩) hf ((other e (Ne.symm hTe)).trans he)
  (fun b o hbo=>(other b fun q=>by rw [q,hnT] at hbo;exact nos hbo).trans (hkb b o hbo)) hen hd (vCl.mp h1).1 h0 c3 c4
  fun h' ⟨x1,x2,x3,x4⟩ hc'=>hQ h' ⟨x1,hen,x2,x3⟩ hc' fun b o hb hnf=>x4 b o ((other b (noRecord b o hb hnf)).trans hb) hnf
theorem qEK {fl:Value} (hkb:base.StaysIn s.heap) (hen:base.get? e = none) (hl:s.heap.FunFrames base l) (ht:s.heap.TracedAtW base e cls a0 fl) (hc:Cx0 s.heap e)
  (hQ:∀ h',Heap.FlyingW base l e cls a0 h' -> Cx0 h' e -> (∀ b o,s.heap.get? b = some o -> (∀ vs,o.data ≠ .fields vs) -> h'.get? b = some o) -> Q () { s with heap:=h' }):wpAny M A (setFlight (.ref e) none) Q E s:=by
 refine nn fun gN=>?_
 obtain ⟨oe,vs,T,oT,ts,he,hcls,hd,h1,hnT,hTe,hT,hdT,h3⟩:=ht
 obtain ⟨o',vs',c1,c2,c3,c4⟩:=hc
 refine gN ?_
 rw [he] at c1;obtain rfl:=vAy c1
 rw [hd] at c2;cases c2
 have other:∀ b,b ≠ T -> (s.heap.update T (Obj.mapFields (·.setIfInBounds 3 ((none:Option Addr).elim Value.none fun f=>rawInt f)))).get? b = s.heap.get? b:=fun b hb=>vBx _ _ (Ne.symm hb)
 have noRecord:∀ b o,s.heap.get? b = some o -> (∀ vs,o.data ≠ .fields vs) -> b ≠ T:=fun b o hb hnf q=>by
  rw [q,hT] at hb;obtain rfl:=vAy hb;exact hnf ts hdT
 unfold setFlight
 refine vBE (vCH he hd h1 ?_)
 rw [if_pos (show (Value.ref T != Value.none) = true from by simp)]
 refine wpAny_setField hT hdT ((vCl.mp h3).1:3 < ts.size) (hQ _ ⟨fun b o hbo=>(other b fun q=>by rw [q,hnT] at hbo;exact nos hbo).trans (hkb b o hbo),hen,
  hl.of_keeps fun b o hb hnf=>⟨o,(other b (noRecord b o hb hnf)).trans hb,rfl⟩,?_⟩ ⟨oe,vs,(other e (Ne.symm hTe)).trans he,hd,c3,c4⟩ fun b o hb hnf=>(other b (noRecord b o hb hnf)).trans hb)
 exact ⟨oe,vs,T,_,_,(other e (Ne.symm hTe)).trans he,hcls,hd,h1,hnT,hTe,vBf _ hT (Obj.isFreed_of_fields (vCm hdT _)),vCm hdT _,by simp [((vCl.mp h3).1:3 < ts.size)]⟩
theorem jYK (hh:Heap.HeldW base l e cls a0 L s.heap) (hc:Cx0 s.heap e)
  (hQ:∀ h',Heap.FlyingW base l e cls a0 h' -> Cx0 h' e -> (∀ b o,s.heap.get? b = some o -> (∀ vs,o.data ≠ .fields vs) -> h'.get? b = some o) -> Q () { s with heap:=h' }):wpAny M A (setFlight (.ref e) none) Q E s:=by
 exact qEK hh.1 hh.2.1 hh.2.2.1 hh.2.2.2 hc hQ
theorem jUH 
  (hfr:A.frames = some (env :: outer)) (hf:env.frame = some L) (hfl:Heap.FlyingW base (env :: outer) e cls a0 s.heap) (hc:Cx0 s.heap e)
  (hQ:∀ h',Heap.FlyingW base outer e cls a0 h' -> Cx0 h' e -> s.heap.UpToSlots h' -> Q () { s with heap:=h' }):wpAny M A (leaving env (.ref e)) Q E s:=by
 unfold leaving
 refine vBE (qJL hfr hf hfl hc fun h' hh hc' hu=>jYK (s:={ s with heap:=h' }) hh hc' fun h'' hfl' hc'' hk=>hQ h'' ?_ hc'' (hu.trans fun b o hb hn=>⟨o.slots,hk b o hb hn⟩))
 obtain ⟨k1,k2,⟨_,_,k3⟩,k4⟩:=hfl'
 exact ⟨k1,k2,k3,k4⟩
theorem jLQ {args:List Value} 
  (hfr:A.frames = some (env :: outer)) (hf:env.frame = some L) (hkb:base.StaysIn h) (hl:h.FunFrames base (env :: outer)) (hx:Heap.MadeExcOf h s.heap e cls args)
  (hQ:∀ h' t,Heap.FlyingW base outer e cls (.ref t) h' -> Cx0 h' e -> s.heap.UpToSlots h' -> Q () { s with heap:=h' }):wpAny M A (leaving env (.ref e)) Q E s:=by
 obtain ⟨t,he,htn,ht⟩:=hx.there
 have fresh:∀ b,h.get? b = none -> base.get? b = none:=fun b hb=>by
  cases hq:base.get? b with
  | none=>rfl
  | some o'=>have:=hkb b o' hq;rw [hb] at this;exact nos this
 unfold leaving noteFrame
 simp only [hf]
 refine vBE (vBE (vCH he rfl (x:=.none) rfl ?_))
 rw [if_neg (by decide)]
 refine qER (a0:=.ref t) hfr (hl.of_keeps fun b o hb _=>⟨o,hx.keeps b o hb,rfl⟩) hf he (fun b o hb=>hx.keeps b o (hkb b o hb)) (fresh e hx.new) rfl (show 1 < 6 by decide) rfl rfl rfl fun h' hN hc'=>?_
 obtain ⟨x1,x2,x3,x4⟩:=hN
 refine jYK (s:={ s with heap:=h' }) (L:=L) ⟨x1,fresh e hx.new,x2,x3⟩ hc' fun h'' hfl' hc'' hk=>hQ h'' t ?_ hc'' (Heap.UpToSlots.trans (show s.heap.UpToSlots h' from x4) fun b o hb hn=>⟨o.slots,hk b o hb hn⟩)
 refine nn fun gN=>?_
 obtain ⟨k1,k2,⟨_,_,k3⟩,k4⟩:=hfl'
 refine gN ?_
 clear gN
 exact ⟨k1,k2,k3,k4⟩
end
noncomputable def jWF (cb h:Heap):Heap:={ h with objs:=h.objs.mapIdx fun i o=>if (cb.get? i).isSome then o else match o.data with | .dict _ _=>{ o with data:=.freed } | _=>o }
theorem get_iff:h.get? b = some o ↔ h.objs[b]? = some o /\ o.data ≠ .freed:=by
 unfold Heap.get?
 constructor
 ·intro e
  split at e
  ·exact nos e
  ·rename_i o' hne
   refine ⟨e,fun q=>?_⟩
   obtain ⟨a,b',d,sl⟩:=o
   dsimp only at q
   subst q
   exact hne _ _ _ e
 ·rintro ⟨e,hne⟩
  split
  ·rename_i e'
   rw [e] at e';obtain rfl:=vAy e';exact absurd rfl hne
  ·exact e
theorem jHQ:(jWF cb h).objs[b]? = (h.objs[b]?).map fun o=>if (cb.get? b).isSome then o else match o.data with | .dict _ _=>{ o with data:=.freed } | _=>o:=by
 unfold jWF
 simp only [Array.getElem?_mapIdx]
theorem yb (e:h.get? b = some o) (hc:JW o \/ ∃ o',cb.get? b = some o'):(jWF cb h).get? b = some o:=by
 obtain ⟨e1,e2⟩:=get_iff.mp e
 refine get_iff.mpr ⟨?_,e2⟩
 rw [jHQ,e1,Option.map_some]
 rcases hc with hc | ⟨o',hc⟩
 ·congr 1
  split
  ·rfl
  ·split
   ·rename_i q;exact absurd q (hc _ _)
   ·rfl
 ·rw [hc];rfl
theorem jTP:(jWF cb h).StaysIn h:=by
 intro b o e
 obtain ⟨e1,e2⟩:=get_iff.mp e
 rw [jHQ] at e1
 obtain ⟨o',e3,e4⟩:=vBD.mp e1
 split at e4
 ·obtain rfl:=e4.symm;exact get_iff.mpr ⟨e3,e2⟩
 ·split at e4
  ·subst e4;exact absurd rfl e2
  ·subst e4;exact get_iff.mpr ⟨e3,e2⟩
theorem jWE {es:Array DictEntry} {n:Nat} (e:h.get? b = some o) (hd:o.data = .dict es n) (hc:cb.get? b = none):(jWF cb h).get? b = none:=by
 obtain ⟨e1,e2⟩:=get_iff.mp e
 cases q:(jWF cb h).get? b with
 | none=>rfl
 | some o' =>
  obtain ⟨q1,q2⟩:=get_iff.mp q
  rw [jHQ,e1,Option.map_some,hc] at q1
  simp only [Option.isSome_none,Bool.false_eq_true,if_false,hd,Option.some.injEq] at q1
  subst q1
  exact absurd rfl q2
theorem Rps.each (r:Rps X h vs ds fp):∃ vf:Tb,(∀ (i:Nat) (d:D),ds[i]? = some d -> vs[i]? = some (vf i).1 /\ Rp X h (vf i).1 d (vf i).2) /\ (∀ i a,a ∈ (vf i).2 -> a ∈ fp) :=
 r.ind (Ps:=fun vs ds fp=>∃ vf:Tb,(∀ (i:Nat) (d:D),ds[i]? = some d -> vs[i]? = some (vf i).1 /\ Rp X h (vf i).1 d (vf i).2) /\ (∀ i a,a ∈ (vf i).2 -> a ∈ fp)) ⟨fun _=>(.none,[]),fun _ _ e=>(nomatch e),fun _ _ ha=>(nomatch ha)⟩
  (fun {v _ _ _ f _} r _ ih=>by
   obtain ⟨vf,h1,h2⟩:=ih
   refine ⟨fun i=>Nat.casesOn i (v,f) vf,fun i d' e=>?_,fun i a ha=>?_⟩
   ·cases i with
    | zero=>exact ⟨rfl,vAy e ▸ r⟩
    | succ j=>exact h1 j d' e
   ·cases i with
    | zero=>exact vBU _ ha
    | succ j=>exact vBQ _ (h2 j a ha))
theorem jQH (k:Str -> Option NameKind):∀ (l:List (Str × Value)) (m:Str -> Option Value),(∀ p ∈ l,p.1 ≠ x) -> bindL k l m x = m x:=by
 intro l
 induction l with
 | nil =>
  intro _ _
  exact rfl
 | cons hxx r ih =>
  intro m h
  obtain ⟨y,v⟩:=hxx
  rw [bindL,ih _ fun p hp=>h p (vBC _ hp)]
  split
  ·have:x ≠ y:=fun q=>h _ (vBA ..) q.symm
   simp [this]
  ·rfl
theorem qAK (k:Str -> Option NameKind) {v:Value} (hk:k x = some .local):∀ (l:List (Str × Value)) (m:Str -> Option Value),(l.map (·.1)).Nodup -> (x,v) ∈ l -> bindL k l m x = some v:=by
 intro l
 induction l with
 | nil=>exact fun _ _ h=>nomatch h
 | cons yw r ih =>
  obtain ⟨y,w⟩:=yw
  intro m hn h
  rw [List.map_cons,vCv] at hn
  rw [bindL]
  rcases vCu.mp h with e | h
  ·cases e
   rw [jQH k r _ fun p hp q=>hn.1 (vBa.mpr ⟨p,hp,q⟩),if_pos hk]
   simp
  ·exact ih _ hn.2 h
theorem jQI (k:Str -> Option NameKind):∀ (l:List (Str × Value)) (m:Str -> Option Value),(∀ p ∈ l,p.1 ≠ x) -> bindC k l m x = m x:=by
 intro l
 induction l with
 | nil =>
  intro _ _
  exact rfl
 | cons hxx r ih =>
  intro m h
  obtain ⟨y,v⟩:=hxx
  rw [bindC,ih _ fun p hp=>h p (vBC _ hp)]
  split
  ·rfl
  ·have:x ≠ y:=fun q=>h _ (vBA ..) q.symm
   simp [this]
theorem qAM (k:Str -> Option NameKind) {v:Value} (hk:k x ≠ some .local):∀ (l:List (Str × Value)) (m:Str -> Option Value),(l.map (·.1)).Nodup -> (x,v) ∈ l -> bindC k l m x = some v:=by
 intro l
 induction l with
 | nil=>exact fun _ _ h=>nomatch h
 | cons yw r ih =>
  obtain ⟨y,w⟩:=yw
  intro m hn h
  rw [List.map_cons,vCv] at hn
  rw [bindC]
  rcases vCu.mp h with e | h
  ·cases e
   rw [jQI k r _ fun p hp q=>hn.1 (vBa.mpr ⟨p,hp,q⟩),if_neg hk]
   simp
  ·exact ih _ hn.2 h
theorem jH:∀ (names:List (Str × NameKind)) (n:Nat) (acc:List (Str × Addr)),names.lookup x = some .cell \/ (acc.lookup x).isSome = true -> ((cellsFrom n names acc).lookup x).isSome = true:=by
 intro names
 induction names with
 | nil =>
  intro _ _ h
  exact h.elim (fun e=>by exact nos e) id
 | cons hxx r ih =>
  intro n acc h
  obtain ⟨y,k⟩:=hxx
  rw [cellsFrom]
  cases hy:x == y with
  | true =>
   split
   ·exact ih (n + 1) _ (.inr (by rw [List.lookup_cons,hy];rfl))
   ·rename_i hk
    refine ih n acc (.inr ?_)
    rcases h with e | e
    ·rw [List.lookup_cons,hy] at e;obtain rfl:=vAy e;exact absurd rfl hk
    ·exact e
  | false =>
   split
   ·refine ih (n + 1) _ (h.imp (fun e=>?_) fun e=>?_)
    ·rw [List.lookup_cons,hy] at e;exact e
    ·rw [List.lookup_cons,hy];exact e
   ·refine ih n acc (h.imp (fun e=>?_) id)
    rw [List.lookup_cons,hy] at e;exact e
theorem jk:∀ {l:List (Str × Addr)} {y:Str} {a:Addr},l.lookup y = some a -> (y,a) ∈ l:=by
 intro l
 induction l with
 | nil =>
  intro _ _ h
  exact nos h
 | cons hxx r ih =>
  intro y k h
  obtain ⟨x,k'⟩:=hxx
  rw [List.lookup_cons] at h
  cases hb:y == x with
  | true=>rw [hb] at h;obtain rfl:=vAy h;rw [vBc] at hb;subst hb;exact vBA ..
  | false=>rw [hb] at h;exact vBC _ (ih h)
theorem jMZ:∀ {l:List (Str × Addr)} {x y:Str} {a:Addr},l.Pairwise (fun x y=>x.2 ≠ y.2) -> l.lookup x = some a -> l.lookup y = some a -> x = y:=by
 intro l
 induction l with
 | nil =>
  intro _ _ _ _ h _
  exact nos h
 | cons hxx r ih =>
  intro x y a hp h1 h2
  obtain ⟨z,b⟩:=hxx
  rw [List.pairwise_cons] at hp
  rw [List.lookup_cons] at h1 h2
  cases hx:x == z with
  | true =>
   rw [hx] at h1;obtain rfl:=vAy h1
   rw [vBc] at hx;subst hx
   cases hy:y == x with
   | true=>rw [vBc] at hy;exact hy.symm
   | false=>rw [hy] at h2;exact absurd rfl (hp.1 (y,b) (jk h2))
  | false =>
   rw [hx] at h1
   cases hy:y == z with
   | true=>rw [hy] at h2;obtain rfl:=vAy h2;exact absurd rfl (hp.1 (x,b) (jk h1))
   | false=>rw [hy] at h2;exact ih hp.2 h1 h2
section
variable {n:Nat}
noncomputable def jNM:Option O -> Tj
 | some (.next _)=>some (.ok (.none,2))
 | some (.ret d lv)=>some (.ok (d,lv))
 | some (.exc k _)=>some (.exc k)
 | some (.raise k)=>some (.exc k)
 | _=>none
def Xm (k:Nat) (ds:List D):G:=ds.map (fun d=>some (d,JZ d)) ++ List.replicate k none
def fnF (np k:Nat) (f:Th) (ds:List D):Tj:=if ds.length = np then jNM (f (Xm k ds)) else none
theorem jKF (h:(Xm k ds)[i]? = some (some (d,lv))):ds[i]? = some d /\ lv = JZ d:=by
 unfold Xm at h
 rw [List.getElem?_append] at h
 split at h
 ·rw [vBg] at h
  obtain ⟨d',h1,h2⟩:=vBD.mp h
  cases h2
  exact ⟨h1,rfl⟩
 ·rw [List.getElem?_replicate] at h
  split at h <;> cases h
theorem qEL {bs:Heap} (k:KpP (fun _=>False) h0z h1z) (hb:∀ b o,h1z.get? b = some o -> JW o -> bs.get? b = some o) (hs:bs.StaysIn h')
  (hd:∀ b o,h0z.get? b = some o -> (∀ vs,o.data ≠ .fields vs) -> ∃ sl,h'.get? b = some { o with slots:=sl }):Kp L h0z h':=by
 have kb:KpB [] h0z h':=fun b o _ e=>by
  have h1:JW o -> h'.get? b = some o:=fun nd=>hs b o (hb b o ((k b o id e).1 nd) nd)
  refine ⟨h1,?_⟩
  by_cases nd:JW o
  ·exact ⟨o.slots,h1 nd⟩
  ·refine hd b o e fun vs q=>nd (JS q)
 exact kb.kp (by simp)
theorem qJR (k:KpP (fun _=>False) h0z h'):Kp L h0z h':=by
 have kb:KpB [] h0z h':=fun b o _ e=>k b o id e
 exact kb.kp (by simp)
def jBO (scope:Scope) (ps nm:List Str):Bool :=
 ps.isPrefixOf nm && decide nm.Nodup && ps.all (fun x=>stK scope x && jNN x) && decide (scope.kind = .function) && scope.isCoroutine == false && scope.isGenerator == false
theorem qFV {s:Shared} {globals:Addr} {v:Value} {qual:Str} {func:Option Addr} {code:Value} {builtins:Addr} {Q:Env -> Shared -> Prop}
  (hk:scope.kind = .function) (hl:scope.names.lookup x = some .local)
  (hQ:∀ env,env = newEnv scope s.heap.objs.size globals (cellsFrom (s.heap.objs.size + 1) scope.names []) qual func code none builtins -> 
   ∀ s',InCallC s env.locals (bindL env.kindOf [(x,v)] fun _=>none) env.cells (bindC env.kindOf [(x,v)] fun _=>none) s' -> 1 <= s'.toks -> Q env s') :
  wpAny M A (newFunctionEnv scope globals [] [(x,v)] qual func code none builtins) Q E s:=by
 simp only [newFunctionEnv,Option.isSome_none,Bool.false_eq_true,if_false]
 refine vBE (wpAny_alloc ?_)
 refine vBE (wpAny_layCells _ (fun name kind cells=>by cases hkc:kind == NameKind.cell <;> simp [hkc]) _ _ _ _ ?_)
 have ok:=cellsFrom_ok scope.names (s.heap.push { cls:=.type "frame",data:=.dict #[] }) (s.heap.objs.size + 1) [] ⟨fun _ _ hm=>(nomatch hm),List.Pairwise.nil⟩ (by rw [vCa];exact vBI _)
 rw [vCa] at ok
 rw [show ({ s with heap:=s.heap.push { cls:=.type "frame",data:=.dict #[] } }:Shared).heap.objs.size = s.heap.objs.size + 1 from vCa ..]
 generalize henv:newEnv scope s.heap.objs.size globals (cellsFrom (s.heap.objs.size + 1) scope.names []) qual func code none builtins = env at hQ
 have hkx:env.kindOf x = some .local:=by unfold Env.kindOf;rw [(by rw [<- henv];rfl:env.scope = scope)];exact hl
 have x0:InCallC s env.locals (fun _=>none) env.cells (fun _=>none) { s with heap:=pushCells (s.heap.push { cls:=.type "frame",data:=.dict #[] }) scope.names }:=by
  refine ⟨⟨⟨_,_,rfl⟩,?_,fun b o e=>pushCells_keeps _ _ b o (vBB _ e),by rw [(by rw [<- henv];rfl:env.locals = s.heap.objs.size)];exact vBI _⟩,fun n c hc=>?_,?_,fun n c hm=>?_⟩
  ·rw [(by rw [<- henv];rfl:env.locals = s.heap.objs.size)];exact (Heap.Ns.new s.heap (.type "frame")).keeps (pushCells_keeps _ _)
  ·rw [(by rw [<- henv];rfl:env.cells = cellsFrom (s.heap.objs.size + 1) scope.names [])] at hc;exact (ok.empty n c (mem_of_lookup hc)).1
  ·rw [(by rw [<- henv];rfl:env.cells = cellsFrom (s.heap.objs.size + 1) scope.names [])];exact ok.apart
  ·rw [(by rw [<- henv];rfl:env.cells = cellsFrom (s.heap.objs.size + 1) scope.names [])] at hm;rw [(by rw [<- henv];rfl:env.locals = s.heap.objs.size)];exact (ok.empty n c hm).2
 refine vBE ?_
 rw [List.forIn_cons]
 show wpAny M A ((do storeName (newEnv scope s.heap.objs.size globals (cellsFrom (s.heap.objs.size + 1) scope.names []) qual func code none builtins) x v;pure (ForInStep.yield PUnit.unit)) >>= _) _ _ _
 rw [henv]
 refine vBE (vBE (wpAny_storeName_local hkx x0.toInCall.ns (fun h' hn' hs'=>vBM ?_) (by rw [(by rw [<- henv];rfl:env.scope = scope),hk];rfl)))
 refine vBM (vBM ?_)
 show Q (newEnv scope s.heap.objs.size globals (cellsFrom (s.heap.objs.size + 1) scope.names []) qual func code none builtins) _
 rw [henv]
 have hLc:∀ n c,env.cells.lookup n = some c -> c ≠ env.locals:=fun n c hc q=>by
  have:=x0.above n c (mem_of_lookup hc)
  rw [q] at this;exact Nat.lt_irrefl _ this
 refine hQ env rfl _ ⟨⟨⟨_,_,rfl⟩,?_,fun b o e=>hs'.extBut b o (fun q=>?_) (x0.toInCall.keep b o e),x0.toInCall.fresh⟩,fun n c hc=>?_,x0.apart,x0.above⟩ (Nat.le_add_left 1 _)
 ·have:bindL env.kindOf [(x,v)] (fun _=>none) = fun y=>if y = x then some v else none:=by
   unfold bindL bindL;rw [if_pos hkx]
  rw [this];exact hn'
 ·have:=vBb e
  rw [q] at this;exact absurd this (Nat.not_lt.mpr x0.toInCall.fresh)
 ·have:bindC env.kindOf [(x,v)] (fun _=>none) = fun _=>none:=by
   unfold bindC bindC;rw [if_pos hkx]
  rw [this]
  obtain ⟨o,z1,z2⟩:=x0.cell n c hc
  exact ⟨o,hs'.extBut c o (hLc n c hc) z1,z2⟩
structure FdOk (fd:FuncData) (scope:Scope) (body:List Stmt):Prop where
 sc:fd.scope = scope
 bd:fd.body = .stmts body
 gl:fd.globals = mainGlobals
 cl:fd.closure = []
 bl:fd.builtins = builtinsNs
theorem vF {ps:List Str} (k:Nat) (ok:c.Ok) {a:Addr} 
  (g2:c.base.get? a = some o) (g3:o.data = .func fd) (g4:c.base.CodeRec fd.code fd.qualname) (gs:FdOk fd scope body)
  (hok:jBO scope ps nm = true) {s:Shared} {Q:Ta} 
  (hbind:vs.length = ps.length -> bindArgs fd ⟨vs,[]⟩ = pure (ps.zip vs))
  (hR:Room c hm (n + 1) A l s.heap) (hgd:c.base.StaysIn s.heap) (htk0:1 <= s.toks \/ ∃ x,ps = [x] /\ scope.names.lookup x = some .local) (hrs:Rps c.mg s.heap vs ds fp) (hlen:ds.length = ps.length)
  (hrun:∀ env vf s1z,ScF env scope (env :: l) -> Room c hm n (A.deeper env) (env :: l) s1z.heap -> Iv c s.heap fp env nm (Xm k ds) vf s1z -> (∃ h tk,s1z = { s with heap:=h,toks:=tk }) -> 
   wpAny (model c.prog c.w) (A.deeper env) (execs body env) (fun w s'=>Q (match w with | .ret v=>v | _=>.none) s') (fun x s'=>wpAny (model c.prog c.w) (A.deeper env) (leaving env x) (fun _ s''=>E x s'') (fun e' s''=>E e' s'') s') s1z) :
  codeAny (model c.prog c.w) A (.call (.ref a) ⟨vs,[]⟩) (fun r s'=>match r with | .ok (.ret v)=>Q v s' | .ok _=>False | .error e=>E e s') s:=by
 refine nn fun gN=>?_
 obtain ⟨gs1,gs2,gs3,gs4,gs5⟩:=gs
 have hvl:vs.length = ps.length:=hrs.length.trans hlen
 simp only [jBO,vBR,vBZ,vBt,vBc] at hok
 obtain ⟨⟨⟨⟨⟨k1,k2⟩,k3⟩,k4⟩,k5⟩,k6⟩:=hok
 obtain ⟨rest,hpre⟩:=List.isPrefixOf_iff_prefix.mp k1
 refine gN ?_
 refine codeAny_call_function (by exact vBh (vAz (vBW ..) hR.depth) (by decide)) (hgd a o g2) g3 (gs1 ▸ k5) (gs1 ▸ k6) gs2 ?_ ?_
 ·obtain ⟨c',o',vs',t,q1,q2,q3⟩:=g4
  exact ⟨c',o',vs',t,q1,hgd _ _ q2,q3⟩
 rw [hbind hvl,gs1,gs3,gs4,gs5]
 refine vBM ?_
 suffices hfin:∀ env,env = newEnv scope s.heap.objs.size mainGlobals (cellsFrom (s.heap.objs.size + 1) scope.names []) (fd.qualname ++ ".<locals>.") (some a) fd.code none builtinsNs -> 
   ∀ s',InCallC s env.locals (bindL env.kindOf (ps.zip vs) fun _=>none) env.cells (bindC env.kindOf (ps.zip vs) fun _=>none) s' -> 1 <= s'.toks -> s'.heap.NoLimit /\ 
    codeAny (model c.prog c.w) A (.func body env) (fun r s'=>match r with | .ok (.ret v)=>Q v s' | .ok _=>False | .error e=>E e s') s' by
  rcases htk0 with ht | ⟨x,rfl,hx⟩
  ·refine wpAny_with_toks ht (wpAny_newFunctionEnv_cells k4 (fun p hp=>?_) hfin)
   have:=(k3 p.1 ((fun {x v} h=>(List.of_mem_zip h).1:∀ {x:Str} {v:Value},(x,v) ∈ ps.zip vs -> x ∈ ps) hp)).1
   unfold stK at this
   simp only [vCD,vBZ] at this
   exact this.imp id fun e=>⟨e,(fun x L' e=>jH _ _ _ (.inl e):∀ x L',scope.names.lookup x = some .cell -> ((cellsFrom L' scope.names []).lookup x).isSome = true) p.1 _ e⟩
  ·refine nn fun gN=>?_
   obtain ⟨v,rfl⟩:=List.length_eq_one_iff.mp hvl
   refine gN ?_
   exact qFV k4 hx hfin
 intro env henv s1z hin htk
 refine ⟨ok.nl.keeps fun b o e=>hin.toInCall.keep b o (hgd b o e),codeAny_func ?_⟩
 have esc:env.scope = scope:=by rw [henv];rfl
 have eloc:env.locals = s.heap.objs.size:=by rw [henv];rfl
 have ecel:env.cells = cellsFrom (s.heap.objs.size + 1) scope.names []:=by rw [henv];rfl
 have efr:env.frame = some env.locals:=by rw [henv];rfl
 obtain ⟨⟨hsame,hn1z,hkeep,hfresh⟩,hcl,hap,hab⟩:=hin
 have hbase:∀ b,s.heap.get? b = none -> c.base.get? b = none:=fun b hb=>by
  cases q:c.base.get? b with
  | none=>rfl
  | some o=>have:=hgd b o q;rw [hb] at this;exact nos this
 obtain ⟨vf,hv1,hv2⟩:=Rps.each (hrs.keep fun b o e _=>hkeep b o e)
 have hcn:∀ x b,env.cells.lookup x = some b -> s.heap.get? b = none:=fun x b e=>by
  have:=hab x b (jk e)
  refine vCA ?_
  rw [eloc] at this;exact vBd this
 have hnmi:∀ (i:Nat) (d:D),ds[i]? = some d -> ∃ x,nm[i]? = some x /\ ps[i]? = some x:=fun i d e=>by
  have hi:i < ps.length:=by rw [<- hlen];exact (vBY.mp e).1
  refine ⟨ps[i],?_,by simp [hi]⟩
  rw [<- hpre,List.getElem?_append_left hi]
  simp [hi]
 have hBd:∀ (i:Nat) (d:D) (x:Str),ds[i]? = some d -> ps[i]? = some x -> Bd env s1z.heap x (vf i).1:=fun i d x e ex=>by
  have hmem:(x,(vf i).1) ∈ ps.zip vs:=by
   obtain ⟨h1,_⟩:=hv1 i d e
   exact vBT (i:=i) (by rw [List.getElem?_zip_eq_some];exact ⟨ex,h1⟩)
  have hkx:=k3 x (vBT ex)
  unfold jNN at hkx
  simp only [vBR,bne_iff_ne,ne_eq] at hkx
  refine ⟨by simpa using hkx.2.1,by simpa using hkx.2.2,?_⟩
  have hst:=hkx.1
  unfold stK at hst
  simp only [vCD,vBZ] at hst
  rcases hst with hst | hst
  ·exact .inl ⟨(by unfold Env.kindOf;rw [esc];exact hst:env.kindOf x = some .local),_,hn1z,qAK _ (by unfold Env.kindOf;rw [esc];exact hst:env.kindOf x = some .local) _ _ (by rw [(by rw [List.map_fst_zip];rw [hvl];exact vBI _:((ps.zip vs).map (·.1)) = ps)];exact (by rw [<- hpre] at k2;exact (vCY.mp k2).1:ps.Nodup)) hmem⟩
  ·obtain ⟨cl,hcl'⟩:=vBe.mp ((fun x L' e=>jH _ _ _ (.inl e):∀ x L',scope.names.lookup x = some .cell -> ((cellsFrom L' scope.names []).lookup x).isSome = true) x (s.heap.objs.size + 1) hst)
   rw [<- ecel] at hcl'
   have:=hcl x cl hcl'
   rw [qAM env.kindOf (by rw [(by unfold Env.kindOf;rw [esc];exact hst:env.kindOf x = some .cell)];decide) _ _ (by rw [(by rw [List.map_fst_zip];rw [hvl];exact vBI _:((ps.zip vs).map (·.1)) = ps)];exact (by rw [<- hpre] at k2;exact (vCY.mp k2).1:ps.Nodup)) hmem] at this
   exact .inr ⟨.inl (by unfold Env.kindOf;rw [esc];exact hst:env.kindOf x = some .cell),cl,hcl',this⟩
 have hgd1:Gd c s1z:=by
  exact ⟨fun b o e=>hkeep b o (hgd b o e),htk⟩
 have iv:Iv c s.heap fp env nm (Xm k ds) vf s1z:=by
  refine ⟨⟨hgd1,⟨_,hn1z⟩,hbase _ (vCA (by rw [eloc];exact vBI _):s.heap.get? env.locals = none),by rw [esc];exact k4,(by rw [henv];rfl:env.globals = mainGlobals),(by rw [henv];rfl:env.builtins = builtinsNs),fun x e=>?_,fun i d lv e=>?_⟩,KpP.of_but fun b o _ e=>hkeep b o e,(vCA (by rw [eloc];exact vBI _):s.heap.get? env.locals = none),fun x b e=>⟨hcn x b e,_,hcl x b e⟩,fun x y b e1 e2=>jMZ hap e1 e2,k2,fun i b hb=>?_,fun i b hb=>.inr (.inl (hv2 i b hb)),fun i d lv e q b t r=>?_,fun i d lv e q=>?_,hgd⟩
  ·rw [esc] at e
   rw [ecel]
   exact vBe.mp ((fun x L' e=>jH _ _ _ (.inl e):∀ x L',scope.names.lookup x = some .cell -> ((cellsFrom L' scope.names []).lookup x).isSome = true) x _ e)
  ·refine nn fun gN=>?_
   obtain ⟨e1,_⟩:=jKF e
   obtain ⟨x,z1,z2⟩:=hnmi i d e1
   refine gN ?_
   exact ⟨x,z1,hBd i d x e1 z2,(hv1 i d e1).2⟩
  ·exact (hrs.keep fun b o e _=>hkeep b o e).fp_list b (hv2 i b hb)
  ·obtain ⟨e1,rfl⟩:=jKF e
   unfold JZ at q
   split at q
   ·rename_i hfl;rw [(hv1 i d e1).2.flat_fp hfl] at r;cases r
   ·exact absurd q (vBX _)
  ·obtain ⟨e1,rfl⟩:=jKF e
   unfold JZ at q
   split at q
   ·rename_i hfl;rw [(hv1 i d e1).2.flat_fp hfl];exact ⟨fun _ h=>(nomatch h),.nil⟩
   ·exact absurd q (vBX _)
 have hR1:Room c hm n (A.deeper env) (env :: l) s1z.heap:=by
  refine ⟨by show A.frames.map _ = _;rw [hR.fr];rfl,fun e he=>?_,by have:=hR.depth;show A.depth + 1 + n <= 900;exact lN [_,_] (.a (.a (.v 0) (.n 1)) (.v 1)) (.n 900) [(.a (.v 0) (.a (.v 1) (.n 1)),.n 900)] rT this,by show A.units + 3 + 10 * n <= 9000;exact lN [_,_] (.a (.a (.v 0) (.n 3)) (.m 10 (.v 1))) (.n 9000) [(.a (.v 0) (.m 10 (.a (.v 1) (.n 1))),.n 9000)] rT hR.units,?_⟩
  ·rcases vCu.mp he with hqq | he
   ·rw [hqq];obtain ⟨o',es,ep,z1,z2,_⟩:=hn1z
    exact ⟨by rw [esc,k4];decide,_,o',es,ep,efr,hbase _ (vCA (by rw [eloc];exact vBI _):s.heap.get? env.locals = none),z1,z2⟩
   ·obtain ⟨h1,L',o',es,n',h2,h3,h4,h5⟩:=hR.ok e he
    exact ⟨h1,L',o',es,n',h2,h3,hkeep _ _ h4,h5⟩
  ·cases hm with
   | false=>exact hR.hm
   | true =>
    obtain ⟨y,o',vs',h1,h2,h3,h4⟩:=hR.hm
    exact ⟨y,o',vs',h1,hkeep _ _ h2,h3,h4⟩
 exact hrun env vf s1z ⟨esc,rfl,efr⟩ hR1 iv hsame
theorem jMC {ps:List Str} {f:Th} (k:Nat) (ok:c.Ok) {a:Addr} 
  (g2:c.base.get? a = some o) (g3:o.data = .func fd) (g4:c.base.CodeRec fd.code fd.qualname) (gs:FdOk fd scope body)
  (hB:kn c hm n scope nm body f)
  {s:Shared} {Q:Ta} 
  (hbind:vs.length = ps.length -> bindArgs fd ⟨vs,[]⟩ = pure (ps.zip vs)) (hok:jBO scope ps nm = true)
  (hR:Room c hm (n + 1) A l s.heap) (hgd:c.base.StaysIn s.heap) (htk0:1 <= s.toks \/ ∃ x,ps = [x] /\ scope.names.lookup x = some .local) (hrs:Rps c.mg s.heap vs ds fp) (hf:fnF ps.length k f ds = some r)
  (hQ:∀ v d lv fp' s',r = .ok (d,lv) -> St c Lc s s' -> Rp c.mg s'.heap v d fp' -> (∀ a ∈ fp',s.heap.get? a = none \/ a ∈ fp \/ Fz c a) -> Lv s.heap s'.heap lv fp' -> Q v s')
  (hE:∀ x k s',r = .exc k -> Fly c Lc l s x k s' -> E x s'):codeAny (model c.prog c.w) A (.call (.ref a) ⟨vs,[]⟩) (fun r s'=>match r with | .ok (.ret v)=>Q v s' | .ok _=>False | .error e=>E e s') s:=by
 obtain ⟨hlen,hf⟩:=ifs hf
 ·refine vF k ok g2 g3 g4 gs hok hbind hR hgd htk0 hrs hlen fun env vf s1z hsc hR1 iv hsame=>?_
  cases hfo:f (Xm k ds) with
  | none=>rw [hfo] at hf;exact nos hf
  | some ro =>
   rw [hfo] at hf
   have sameT:∀ {s':Shared},(∃ h tk,s' = { s1z with heap:=h,toks:=tk }) -> ∃ h tk,s' = { s with heap:=h,toks:=tk }:=fun {s'} q=>by
    obtain ⟨h,tk,e⟩:=hsame
    obtain ⟨h',tk',e'⟩:=q
    exact ⟨h',tk',by rw [e',e]⟩
   refine hB (A.deeper env) (env :: l) env s.heap fp _ vf s1z ro _ _ hsc hR1 iv hfo (fun w s' p=>?_) (fun x s' p=>?_)
   ·cases ro with
    | next Z' =>
     cases w <;> first | exact p.elim | skip
     obtain ⟨vf',p⟩:=p
     exact hQ _ _ _ _ _ ((vAy hf).symm) ⟨sameT p.same,qJR p.iv.kb,p.iv.rd.bs⟩ .none (fun _ h=>nomatch h) (Lv.nil _ _)
    | brk Z'=>exact nos hf
    | cont Z'=>exact nos hf
    | ret d lv =>
     cases w <;> first | exact p.elim | skip
     refine nn fun gN=>?_
     obtain ⟨q1,q2,q3,q4,_,fp',q5,q6,q7⟩:=p
     refine gN ?_
     exact hQ _ _ _ _ _ ((vAy hf).symm) ⟨sameT q1,qJR q3,q4⟩ q5 q6 q7
    | exc k' Z'=>exact p.elim
    | raise k'=>exact p.elim
   ·cases ro with
    | next Z'=>exact p.elim
    | brk Z'=>exact p.elim
    | cont Z'=>exact p.elim
    | ret d lv=>exact p.elim
    | exc k' Z' =>
     refine nn fun gN=>?_
     obtain rfl:=vAy hf
     obtain ⟨vf',s2z,sp,a',C,t,bs,rfl,q2,q3,q4,q5,q6,q7,q8⟩:=p
     have hkb:KpP (fun _=>False) s.heap s2z.heap:=sp.iv.kb
     refine gN ?_
     refine jUH hR1.fr hsc.2.2 q7 q8 fun h' hfl hc' hu=>?_
     refine hE _ k' _ rfl ⟨a',C,t,bs,rfl,q2,⟨?_,?_,⟨fun b o e=>hfl.1 b o (q4 b o e),q3.bs.2⟩⟩,q4,fun b o e nd=>q5 b o ((hkb b o id e).1 nd) nd,hkb.gone q6,hfl,hc'⟩
     ·refine nn fun gN=>?_
      obtain ⟨h,tk,e⟩:=sameT sp.same
      obtain ⟨h'',tk'',e''⟩:=q3.same
      refine gN ?_
      exact ⟨h',s'.toks,by rw [e'',e]⟩
     ·refine qEL hkb q5 hfl.1 fun b o e hnf=>?_
      refine nn fun gN=>?_
      obtain ⟨_,sl,e1⟩:=hkb b o id e
      obtain ⟨sl',e2⟩:=q3.kp.dct b _ (fun q=>by rw [q,iv.nl] at e;exact nos e:b ≠ env.locals) e1
      obtain ⟨sl'',e3⟩:=hu b _ e2 hnf
      refine gN ?_
      exact ⟨sl'',e3⟩
    | raise k' =>
     refine nn fun gN=>?_
     obtain rfl:=vAy hf
     obtain ⟨p1,p2,h,e,C,args,rfl,p3,p4,p5,p6,p7⟩:=p
     have hff:h.FunFrames (jWF c.base h) (env :: l):=by
      have:∀ l':List Env,(∀ e ∈ l',e ∈ env :: l) -> h.FunFrames (jWF c.base h) l':=by
       intro l'
       induction l' with
       | nil=>intro _;exact trivial
       | cons e' r ih =>
        intro hl'
        refine nn fun gN=>?_
        obtain ⟨z1,L',o',es,n',z2,z3,z4,z5⟩:=p7 e' (hl' e' (vBA ..))
        refine gN ?_
        exact ⟨z1,⟨L',o',z2,jWE z4 z5 z3,z4,fun vs q=>by rw [z5] at q;cases q⟩,ih fun e he=>hl' e (vBC _ he)⟩
      exact this _ fun _ h=>h
     refine gN ?_
     refine jLQ hR1.fr hsc.2.2 jTP hff p4 fun h' t hfl hc' hu=>?_
     refine hE _ k' _ rfl ⟨e,C,.ref t,jWF c.base h,rfl,p3,⟨?_,?_,⟨fun b o q=>hfl.1 b o ((fun b o q=>yb (p6 b o q) (.inr ⟨o,q⟩):∀ b o,c.base.get? b = some o -> (jWF c.base h).get? b = some o) b o q),p2.2⟩⟩,(fun b o q=>yb (p6 b o q) (.inr ⟨o,q⟩):∀ b o,c.base.get? b = some o -> (jWF c.base h).get? b = some o),fun b o q nd=>yb ((p5 b o id q).1 nd) (.inl nd),p5.gone p4.new,hfl,hc'⟩
     ·obtain ⟨h'',tk'',e''⟩:=sameT p1
      exact ⟨h',s'.toks,by rw [e'']⟩
     ·refine qEL p5 (fun b o q nd=>yb q (.inl nd)) hfl.1 fun b o q hnf=>?_
      refine nn fun gN=>?_
      obtain ⟨_,sl,e1⟩:=p5 b o id q
      obtain ⟨sl',e2⟩:=hu b _ (p4.keeps b _ e1) hnf
      refine gN ?_
      exact ⟨sl',e2⟩
theorem jSS {ps:List Str} {f:Th} (k:Nat) (ok:c.Ok) {a:Addr} 
  (g2:c.base.get? a = some o) (g3:o.data = .func fd) (g4:c.base.CodeRec fd.code fd.qualname) (gs:FdOk fd scope body)
  (hB:kn c hm n scope nm body f)
  {s:Shared} {Q:Ta} 
  (hbind:vs.length = ps.length -> bindArgs fd ⟨vs,[]⟩ = pure (ps.zip vs)) (hok:jBO scope ps nm = true)
  (hR:Room c hm (n + 1) A l s.heap) (hgd:c.base.StaysIn s.heap) (htk0:1 <= s.toks \/ ∃ x,ps = [x] /\ scope.names.lookup x = some .local) (hrs:Rps c.mg s.heap vs ds fp) (hf:fnF ps.length k f ds = some r)
  (hQ:∀ v d lv fp' s',r = .ok (d,lv) -> St c Lc s s' -> Rp c.mg s'.heap v d fp' -> (∀ a ∈ fp',s.heap.get? a = none \/ a ∈ fp \/ Fz c a) -> Lv s.heap s'.heap lv fp' -> Q v s')
  (hE:∀ x k s',r = .exc k -> Fly c Lc l s x k s' -> E x s'):wpAny (model c.prog c.w) A (call (.ref a) vs) Q E s :=
 vCi (jMC k ok g2 g3 g4 gs hB hbind hok hR hgd htk0 hrs hf hQ hE)
theorem qGR {ps:List Str} {f:Th} (k:Nat) (ok:c.Ok) {a:Addr} {pm code doc:Value}
  (g2:c.base.get? a = some o) (g3:o.data = .func (docDef name params body scope pm code doc)) (g4:c.base.CodeRec code name)
  (hB:kn c hm n scope nm body f)
  (hbind:∀ pm code doc (vals:List Value),vals.length = ps.length -> bindArgs (docDef name params body scope pm code doc) ⟨vals,[]⟩ = pure (ps.zip vals))
  (hok:jBO scope ps nm = true) {s:Shared} {Q:Ta} 
  (hR:Room c hm (n + 1) A l s.heap) (hgd:c.base.StaysIn s.heap) (htk0:1 <= s.toks \/ ∃ x,ps = [x] /\ scope.names.lookup x = some .local) (hrs:Rps c.mg s.heap vs ds fp) (hf:fnF ps.length k f ds = some r)
  (hQ:∀ v d lv fp' s',r = .ok (d,lv) -> St c Lc s s' -> Rp c.mg s'.heap v d fp' -> (∀ a ∈ fp',s.heap.get? a = none \/ a ∈ fp \/ Fz c a) -> Lv s.heap s'.heap lv fp' -> Q v s')
  (hE:∀ x k s',r = .exc k -> Fly c Lc l s x k s' -> E x s'):wpAny (model c.prog c.w) A (call (.ref a) vs) Q E s:=by
 exact jSS k ok g2 g3 g4 ⟨rfl,rfl,rfl,rfl,rfl⟩ hB (hbind _ _ _ vs) hok hR hgd htk0 hrs hf hQ hE
theorem Xd {ps:List Str} {f:Th} (k:Nat) (ok:c.Ok)
  (hfn:∃ a o pm code doc,c.mg name = some (.ref a) /\ c.base.get? a = some o /\ o.data = .func (docDef name params body scope pm code doc) /\ c.base.CodeRec code name)
  (hB:kn c hm n scope nm body f)
  (hbind:∀ pm code doc (vals:List Value),vals.length = ps.length -> bindArgs (docDef name params body scope pm code doc) ⟨vals,[]⟩ = pure (ps.zip vals))
  (hok:autoParam (jBO scope ps nm = true) yK) :
  Fn c hm (n + 1) name (fnF ps.length k f):=by
 refine nn fun gN=>?_
 obtain ⟨a,o,pm,code,doc,g1,g2,g3,g4⟩:=hfn
 refine gN ?_
 clear gN
 exact ⟨a,o,_,g1,g2,g3,fun A l Lc mc s vs ds fp r Q E hR hns hnb hgd hrs hf hQ hE=>qGR k ok g2 g3 g4 hB hbind hok hR hgd.1 (.inl hgd.2) hrs hf hQ hE⟩
end
noncomputable def qk (sep:List Nat):List (List Nat) -> List Nat
 | []=>[]
 | [x]=>x
 | x :: y :: r=>x ++ sep ++ qk sep (y :: r)
theorem qGH (sep:List Nat):∀ (L:Tc),Str.join (Str.mk sep.toArray) (L.map fun p=>Str.mk p.toArray) = Str.mk (qk sep L).toArray:=by
 intro L
 induction L with
 | nil=>rfl
 | cons x l ih =>
  cases l with
  | nil=>rfl
  | cons y r =>
  have:=ih
  rw [List.map_cons] at this
  rw [List.map_cons,List.map_cons,Str.join,this,qAP,qAP,qk]
  simp
section
variable {n:Nat}
def YA (ds:List D):Tj:=qFR ds fun a=>qAD a (fun _=>none) (fun s=>if s.length <= big then okI s.length else none) (fun xs=>if xs.length <= big then okI xs.length else none) (fun xs=>if xs.length <= big then okI xs.length else none)
theorem Ji:OpN c hm n (fun vs=>call (.builtin "len") vs) YA:=by
 intro A l L m s vs ds fp r Q E hR hn nb hb rs hf hQ hE
 obtain ⟨a,rfl,h2⟩:=j0 hf
 clear hf
 rcases (vt h2).elim (fun ⟨_,_,h⟩=>nos h) id with ⟨x,rfl,hf⟩ | ⟨xs,rfl,hf⟩ | ⟨xs,rfl,hf⟩ <;> clear h2
 ·obtain ⟨va,rfl,ra⟩:=rs.inv1
  split at hf
  ·refine nn fun gN=>?_
   rename_i hlen
   have hrr:=(vAy hf).symm
   obtain ⟨t0,rfl,rfl⟩:=ra.inv
   refine gN ?_
   clear gN
   refine PySem.P.len_str (by rw [vE];exact Int.not_le.mpr (Int.lt_of_le_of_lt (zL hlen) (by decide))) ?_
   rw [vE]
   exact ke hQ hrr (St.toks hb _ (vBr _)) (.int _ _)
  ·exact nos hf
 ·obtain ⟨va,rfl,ra⟩:=rs.inv1
  split at hf
  ·refine nn fun gN=>?_
   rename_i hlen
   have hrr:=(vAy hf).symm
   obtain ⟨x,vx,f,hx,rx⟩:=QR ra
   have hsz:vx.size = xs.length:=by simpa using rx.length
   refine gN ?_
   clear gN
   refine call_len_list hx (by rw [hsz];exact Int.lt_of_le_of_lt (zL hlen) (by decide)) ?_
   rw [hsz]
   exact ke hQ hrr (St.toks hb _ (vBr _)) (.int _ _)
  ·exact nos hf
 ·obtain ⟨va,rfl,ra⟩:=rs.inv1
  split at hf
  ·refine nn fun gN=>?_
   rename_i hlen
   obtain ⟨h1,h2,h3,rx⟩:=ra.inv
   refine gN ?_
   clear gN
   ·
    have hsz:=rx.length
    simp only [vCN] at hsz
    refine PyProof.Rows.len_tuple ⟨_,h1,h2,_,h3⟩ (by rw [hsz];exact Int.lt_of_le_of_lt (zL hlen) (by decide)) ?_
    rw [hsz]
    exact ke hQ ((vAy hf).symm) (St.toks hb _ (vBr _)) (.int _ _)
  ·exact nos hf
noncomputable def jAJ:List D -> Option (Tc)
 | []=>some []
 | .str s :: r=>(jAJ r).map (s :: ·)
 | _=>none
theorem jOH {ts:Tc} (r:Rps X h vs ds fp) (e:jAJ ds = some ts) :
  ∃ l:List (Str × Tok),strValues l = vs /\ l.map (·.1) = ts.map fun p=>Str.mk p.toArray :=
 r.ind (Ps:=fun vs ds _=>∀ ts,jAJ ds = some ts -> ∃ l:List (Str × Tok),strValues l = vs /\ l.map (·.1) = ts.map fun p=>Str.mk p.toArray) (fun ts e=>⟨[],rfl,by obtain rfl:=vAy e;rfl⟩)
  (fun {_ _ d _ _ _} r _ ih ts e=>by
   cases d with
   | str s =>
    refine nn fun gN=>?_
    obtain ⟨ts',e1,rfl⟩:=vBD.mp e
    obtain ⟨t,rfl,rfl⟩:=r.inv
    obtain ⟨l,rfl,h2⟩:=ih ts' e1
    refine gN ?_
    clear gN
    exact ⟨(_,t) :: l,rfl,by rw [List.map_cons,h2];rfl⟩
   | _=>exact nos e) ts e
theorem jGC (ts:Tc):jAJ (ts.map .str) = some ts:=by
 induction ts with
 | nil=>rfl
 | cons t ts ih=>show (jAJ _).map _ = _;rw [ih];rfl
noncomputable def jAG (sep:List Nat) (ts:Tc):Nat:=(ts.map List.length).sum + ts.length * sep.length
def jPE (ds:List D):Tj:=jVY ds fun a b=>ofS a fun sep=>ofL b fun ds=>(jAJ ds).bind fun ts=>if jAG sep ts <= lim then some (.ok (.str (qk sep ts),2)) else none
theorem qFO:OpN c hm n (fun vs=>call (.builtin "str.join") vs) jPE:=by
 intro A l L m s vs ds fp r Q E hR hn nb hb rs hf hQ hE
 obtain ⟨a,b,rfl,h2⟩:=Xu hf
 obtain ⟨sep,rfl,h3⟩:=jIN h2
 obtain ⟨es,rfl,h4⟩:=Zh h3
 obtain ⟨ts,hts,hf⟩:=vBG.mp h4
 ·obtain ⟨va,vb,fa,fb,ra,rb⟩:=rs.inv2
  split at hf
  ·refine nn fun gN=>?_
   rename_i hlen
   obtain ⟨t0,rfl,rfl⟩:=ra.inv
   obtain ⟨x,vx,f,hx,rx⟩:=QR rb
   obtain ⟨l,h1,h2⟩:=jOH rx hts
   refine gN ?_
   refine wpAny_with_toks hb.2 (SC.join (by rw [h1];simpa using hx:s.heap.IsList x (strValues l).toArray) h2 ?_ fun t' k hk=>?_)
   ·unfold JoinOk
    rw [StrLaws.joinTotal,vCJ]
    rw [(List.map_congr_left fun p _=>vE p:(List.map ((fun x=>x.length) ∘ fun p=>Str.mk p.toArray) ts) = ts.map List.length),vBF,vE]
    unfold jAG lim at hlen
    unfold Builtin.Str.tooLong sizeLine
    simp only [Bool.not_eq_true',decide_eq_false_iff_not]
    exact Nat.not_lt.mpr (vAz hlen (by decide))
   ·have e:Txt.join (Str.mk sep.toArray) (ts.map fun p=>Str.mk p.toArray) = Str.mk (qk sep ts).toArray:=by
     unfold Txt.join;rw [StrLaws.glued_eq_join,qGH]
    rw [e]
    exact ke hQ ((vAy hf).symm) (St.toks hb _ hk) (.str _ _)
  ·exact nos hf
theorem jUU:∀ (ts:Tc),D.flats (ts.map .str) = true:=by
 intro ts
 induction ts with
 | nil =>
  exact rfl
 | cons t ts ih =>
  rw [List.map_cons,D.flats,ih];rfl
def jUC (F:Td) (a:D) (g:Option (R (List D))):Tj:=match a with
 | .str x=>JR g fun ds=>F (.str x :: ds)
 | _=>none
set_option maxRecDepth 20000 in
theorem qCZ {o:Expr} {id:String} {g:G -> Option (R (List D))}
  (hget:∀ (A:Around) (E:Ta) (s:Shared) (x:Str) (t:Tok) (pl:Sem Bool) (Q:Value × List Value -> Shared -> Prop),Q (.builtin id,[.str x t]) s -> wpAny (model c.prog c.w) A (getMethod (.str x t) name pl) Q E s)
  (ho:OpN c hm n (fun vs=>call (.builtin id) vs) F) (h1:Den c hm n sc nm o o1 f) (h2:DenA c hm n sc nm (e :: rest) o2 g) (hs:autoParam (QC e) yN) (hp:autoParam (jKL rest) yN) (hmf:autoParam (Xi o name apos (e :: rest) pos) yM) :
  Den c hm n sc nm (.Call (.Attribute o name apos) (e :: rest) [] pos) (o1 ++ o2) (fun Z=>JR (f Z) fun a=>jUC F a.1 (g Z)):=by
 intro A l env Z vf s r Q E hsc hR hRd hf hQ hE
 obtain ⟨m,hn⟩:=hRd.ns
 refine MethodCall_ (h1.run hsc hR hRd hf (fun a la _ hf va fa s1z st1z ra ta lva hR1 hRd1=>?_) hE) (hmf env)
 unfold jUC at hf
 dsimp only at hf
 cases a with
 | str x =>
  refine nn fun gN=>?_
  dsimp only at hf
  obtain ⟨m1z,hn1z⟩:=hRd1.ns
  obtain ⟨t0,rfl,rfl⟩:=ra.inv
  refine gN ?_
  clear gN
  refine hget A E s1z _ _ _ _ ?_
  refine PyProof.Rows.callWith_method1 ?_ (hs _ _) (hp _ _)
  refine h2.run hsc hR1 hRd1 hf (fun ds _ hf vs fs s2z st2z rs ts hR2z hRd2z=>?_) (fun x k s' e fl=>hE x k s' e (fl.back st1z hn))
  obtain ⟨m2z,hn2z⟩:=hRd2z.ns
  have st:=st1z.trans st2z
  refine ho A l env.locals m2z s2z _ (.str x :: ds) ([] ++ fs) r Q E hR2z hn2z hRd2z.nb hRd2z.bs (.cons (.str x _) rs) hf (fun v d lv fp s3z e st3z rp tr lvl=>?_) (fun x k s' e fl=>hE x k s' e (fl.back st hn))
  refine hQ v d lv fp s3z e (st.trans st3z) rp (fun y hy=>?_) (lvl.back fun y hy=>st.kp.gone hn hy)
  rcases tr y hy with h | h | h
  ·exact .inl (st.kp.gone hn h)
  ·exact (ts.back fun y hy=>st1z.kp.gone hn hy).right y (by simpa using h)
  ·exact .inr (.inr h)
 | _=>exact nos hf
set_option maxRecDepth 20000 in
theorem jJU {o:Expr} {g:G -> Option (R (List D))} (h1:Den c hm n sc nm o o1 f) (h2:DenA c hm n sc nm [e] o2 g) (hs:autoParam (QC e) yN)
  (hmf:autoParam (Xi o "join" apos [e] pos) yM) :
  Den c hm n sc nm (.Call (.Attribute o "join" apos) [e] [] pos) (o1 ++ o2) (fun Z=>JR (f Z) fun a=>jUC jPE a.1 (g Z)):=qCZ (fun _ _ _ _ _ _ _ h=>GM.join h) qFO h1 h2 hs (by intro _ _;rfl) hmf
def jPI (T:String):D × Nat -> Tj
 | (.list _,_)=>if T = "list" then okB true else none
 | (.str _,_)=>if T = "str" then okB true else none
 | (.int _,_)=>if T = "int" then okB true else if T = "bool" then okB false else none
 | _=>none
theorem qM {T:String} (ok:c.Ok) (hg:Glb c "isinstance" (.builtin "isinstance")) (hgT:Glb c x (.type T)) (h1:Den c hm n sc nm e o1 f)
  (hk:autoParam (sc.names.lookup ("isinstance":Str) = some .globalImplicit) yK) (hk2:autoParam (sc.names.lookup x = some .globalImplicit) yK) (hd:autoParam ((x == ("__debug__":Str)) = false) yK) (hs:autoParam (QC e) yN) :
  Den c hm n sc nm (.Call (.Name "isinstance" np) [e,.Name x tp] [] pos) [] (fun Z=>JR (f Z) (jPI T)):=by
 intro A l env Z vf s r Q E hsc hR hRd hf hQ hE
 obtain ⟨m,hn⟩:=hRd.ns
 refine Call_ (J8 ok hRd hsc hk (by rfl) hg ?_) (by rfl)
 refine vBq ?_ (hs _ _)
 refine args_cons (h1.run hsc hR hRd hf (fun d la _ hg2 va fa s1z st1z ra ta lva hR1 hRd1=>?_) hE) (hs _ _)
 refine args_cons (J8 ok hRd1 hsc hk2 hd hgT (vCg ?_))
 have fin:∀ b tk,r = .ok (.bool b,2) -> 1 <= tk -> Q (.bool b) { s1z with toks:=tk }:=fun b tk e htk=>hQ _ _ _ _ _ e (st1z.trans (St.toks hRd1.bs _ htk)) (.bool _) Tr.nil (Lv.nil _ _)
 have ht:=hRd1.bs.2
 unfold jPI at hg2
 split at hg2
 ·rename_i heq
  cases heq
  split at hg2
  ·refine nn fun gN=>?_
   rename_i hT
   subst hT
   obtain rfl:=vAy hg2
   obtain ⟨x,vx,f,⟨o,hx,hc,_⟩,rx⟩:=QR ra
   refine gN ?_
   clear gN
   exact IsiPair.list_list hx hc (fin true s1z.toks rfl ht)
  ·exact nos hg2
 ·rename_i heq
  cases heq
  split at hg2
  ·refine nn fun gN=>?_
   rename_i hT
   subst hT
   obtain rfl:=vAy hg2
   obtain ⟨t0,rfl,rfl⟩:=ra.inv
   refine gN ?_
   clear gN
   exact IsiPair.str_str (fin true s1z.toks rfl ht)
  ·exact nos hg2
 ·rename_i heq
  cases heq
  split at hg2
  ·refine nn fun gN=>?_
   rename_i hT
   subst hT
   obtain rfl:=vAy hg2
   obtain ⟨t0,rfl,rfl⟩:=ra.inv
   refine gN ?_
   clear gN
   exact IsiPair.int_int (fin true s1z.toks rfl ht)
  ·split at hg2
   ·refine nn fun gN=>?_
    rename_i hT
    subst hT
    obtain rfl:=vAy hg2
    obtain ⟨t0,rfl,rfl⟩:=ra.inv
    refine gN ?_
    clear gN
    exact IsiPair.int_bool (fin false (s1z.toks + 1) rfl (vBr _))
   ·exact nos hg2
 ·exact nos hg2
end
noncomputable def Yg (prog:Program) (w:World) (s:Shared) (mg mb:Str -> Option Value):Cx:=⟨prog,w,s.heap,mg,mb,[],⟨fun _=>none,fun _=>none⟩⟩
theorem qND {p:Program} {s:Shared} {w:World} (T:Top p loose mean mg mb s.heap):(Yg prog w s mg mb).Ok:=⟨T.g,T.b,T.nolimit⟩
theorem qCJ:∀ {vs:List Value} {ns:List Int},IntsAre vs ns -> Rps X h vs (ns.map .int) []:=by
 intro vs
 induction vs with
 | nil =>
  intro _ hI
  cases hI;exact .nil
 | cons _ _ ih =>
  intro _ hI
  cases hI with
  | cons n t h=>exact .cons (.int _ _) (ih h)
theorem qCF (l:OpenLaw) {cl:Str -> Option Addr} (hk:s1z.heap.StaysIn s'.heap) (hs:∃ h tk,s' = { s1z with heap:=h,toks:=tk }) (hg:s1z.gens = #[]) (hp:l.row.claim.post args (.bool true) args = true) :
  GoodWG l.row.claim cl mean args s1z (.ok (.ret (.bool true))) s':=by
 obtain ⟨h,tk,e⟩:=hs
 refine ⟨.inl ⟨.bool true,.bool true,[],rfl,fun cls=>?_,.bool true,?_,fun _=>⟨.nil,fun a ha=>by cases ha⟩⟩,?_,by rw [e],?_⟩
 ·rfl
 ·exact hp
 ·exact OldK.of_keep hk
 ·rw [e,hg];intro y hy;simp at hy
def QZ (c:Cx) (d:DefRec):Prop:=∃ a o pm code doc,c.mg d.name = some (.ref a) /\ c.base.get? a = some o /\ o.data = .func (docDef d.name d.params d.body d.scope pm code doc) /\ c.base.CodeRec code d.name
theorem OpN.mono {n:Nat} (h:OpN c hm n op F) (hn:n <= n'):OpN c hm n' op F :=
 fun A l L m s vs ds fp r Q E hR=>h A l L m s vs ds fp r Q E (hR.mono hn)
theorem Fn.mono {n:Nat} {f:Str} (h:Fn c hm n f F) (hn:autoParam (n <= n') yD):Fn c hm n' f F:=by
 obtain ⟨a,o,fd,h1,h2,h3,h4⟩:=h
 exact ⟨a,o,fd,h1,h2,h3,h4.mono hn⟩
theorem jLO {α:Type} {l:List α} (h:l.length = 1):∃ a,l = [a]:=by
 match l,h with
 | [a],_=>exact ⟨a,rfl⟩
theorem qHX {α:Type} {n:Nat}:∀ {l:List α},l.length = n + 1 -> ∃ a t,t.length = n /\ l = a :: t:=by
 intro l
 induction l with
 | nil =>
  intro h
  exact nomatch h
 | cons a t ih =>
  intro h
  exact ⟨a,t,Nat.succ.inj h,rfl⟩
theorem jFF {α:Type} {l:List α} (h:l.length = 2):∃ a b,l = [a,b]:=by
 obtain ⟨a,t,k,rfl⟩:=qHX h
 obtain ⟨b,t,k,rfl⟩:=qHX k
 obtain rfl:=List.length_eq_zero_iff.mp ‹t.length = 0›
 exact ⟨a,b,rfl⟩
theorem qHY {α:Type} {l:List α} (h:l.length = 3):∃ a b c,l = [a,b,c]:=by
 obtain ⟨a,t,k,rfl⟩:=qHX h
 obtain ⟨b,c,rfl⟩:=jFF k
 exact ⟨a,b,c,rfl⟩
theorem qGC {α:Type} {l:List α} (h:l.length = 4):∃ a b c d,l = [a,b,c,d]:=by
 obtain ⟨a,t,k,rfl⟩:=qHX h
 obtain ⟨b,c,d,rfl⟩:=qHY k
 exact ⟨a,b,c,d,rfl⟩
theorem qOH {α:Type} {l:List α} (h:l.length = 5):∃ a b c d e,l = [a,b,c,d,e]:=by
 obtain ⟨a,t,k,rfl⟩:=qHX h
 obtain ⟨b,c,d,e,rfl⟩:=qGC k
 exact ⟨a,b,c,d,e,rfl⟩
theorem qOG {α:Type} {l:List α} (h:l.length = 6):∃ a b c d e f,l = [a,b,c,d,e,f]:=by
 obtain ⟨a,t,k,rfl⟩:=qHX h
 obtain ⟨b,c,d,e,f,rfl⟩:=qOH k
 exact ⟨a,b,c,d,e,f,rfl⟩
structure Bi (c:Cx):Prop where
 len:Glb c "len" (.builtin "len")
 isinstance:Glb c "isinstance" (.builtin "isinstance")
 sum:Glb c "sum" (.builtin "sum")
 max:Glb c "max" (.builtin "max")
 min:Glb c "min" (.builtin "min")
 all:Glb c "all" (.builtin "all")
 any:Glb c "any" (.builtin "any")
 sorted:Glb c "sorted" (.builtin "sorted")
 int_:Glb c "int" (.type "int")
 list_:Glb c "list" (.type "list")
 str_:Glb c "str" (.type "str")
 bool_:Glb c "bool" (.type "bool")
 range_:Glb c "range" (.type "range")
noncomputable def zC (p:Program) (loose:List Str) (x:Str):Bool :=
 !(startupNames.contains x || loose.contains x || ((recsOf p).map (·.name)).contains x || ((litsOf p).map (·.1)).contains x || ((clssOf p loose).map (·.name)).contains x || x == ("__name__":Str))
theorem jV {p:Program} {s:Shared} {w:World} (T:Top p loose mean mg mb s.heap) {v:Value}
  (h1:zC p loose x = true) (h2:bootBuiltins x = some v):Glb (Yg prog w s mg mb) x v:=by
 refine nn fun gN=>?_
 simp only [zC,Bool.not_eq_true',Bool.or_eq_false_iff,beq_eq_false_iff_ne,ne_eq] at h1
 obtain ⟨⟨⟨⟨⟨a1,a2⟩,a3⟩,a4⟩,a5⟩,a6⟩:=h1
 refine gN ?_
 clear gN
 refine .inr ⟨T.free x ?_ ?_ ?_ ?_ ?_,(T.builtins x a6).trans h2⟩
 ·simpa using a1
 ·simpa using a2
 ·exact fun h=>absurd (vBj.mpr h) (by rw [a3];decide)
 ·exact fun h=>absurd (vBj.mpr h) (by rw [a4];decide)
 ·exact fun h=>absurd (vBj.mpr h) (by rw [a5];decide)
def qHP (p:Program) (loose:List Str):Bool:=(["len","isinstance","sum","max","min","all","any","sorted","int","list","str","bool","range"]:List Str).all (zC p loose)
theorem qNI {p:Program} {s:Shared} {w:World} (T:Top p loose mean mg mb s.heap) (h:qHP p loose = true):Bi (Yg prog w s mg mb):=by
 have hx:∀ x ∈ (["len","isinstance","sum","max","min","all","any","sorted","int","list","str","bool","range"]:List Str),zC p loose x = true:=fun x hx=>vBt.mp h x hx
 exact ⟨jV T (hx _ (by simp)) (by kernel_rfl),jV T (hx _ (by simp)) (by kernel_rfl),jV T (hx _ (by simp)) (by kernel_rfl),jV T (hx _ (by simp)) (by kernel_rfl),jV T (hx _ (by simp)) (by kernel_rfl),jV T (hx _ (by simp)) (by kernel_rfl),
  jV T (hx _ (by simp)) (by kernel_rfl),jV T (hx _ (by simp)) (by kernel_rfl),jV T (hx _ (by simp)) (by kernel_rfl),jV T (hx _ (by simp)) (by kernel_rfl),jV T (hx _ (by simp)) (by kernel_rfl),jV T (hx _ (by simp)) (by kernel_rfl),jV T (hx _ (by simp)) (by kernel_rfl)⟩
@[simp] theorem qDO (a b:Int):YC [.int a,.int b] = some (.ok (.int (a + b),2)):=rfl
theorem zg (a b:List Nat) (h:(a ++ b).length <= lim):YC [.str a,.str b] = some (.ok (.str (a ++ b),2)):=if_pos h
theorem zh (a b:List D) (h:(a ++ b).length <= lim):YC [.list a,.list b] = some (.ok (.list (a ++ b),vg (a ++ b))):=if_pos h
@[simp] theorem jRP (a b:Int):jNL [.int a,.int b] = some (.ok (.int (a - b),2)):=rfl
theorem jCE (a b:Int) (h:jFE a b = true):jBG [.int a,.int b] = some (.ok (.int (a * b),2)):=if_pos h
theorem zE (a b:Int) (h:b ≠ 0):jM [.int a,.int b] = some (.ok (.int (a.fmod b),2)):=if_pos h
theorem qCX (a b:Int) (h:b ≠ 0) (h2:b.natAbs < 1073741824):zi [.int a,.int b] = some (.ok (.int (a.fdiv b),2)):=if_pos ⟨h,h2⟩
@[simp] theorem qGB (a b:Int):ltF [.int a,.int b] = some (.ok (.bool (decide (a < b)),2)):=rfl
@[simp] theorem qGE (a b:Int):leF [.int a,.int b] = some (.ok (.bool (decide (a <= b)),2)):=rfl
@[simp] theorem qGM (a b:Int):gtF [.int a,.int b] = some (.ok (.bool (decide (b < a)),2)):=rfl
@[simp] theorem qGN (a b:Int):geF [.int a,.int b] = some (.ok (.bool (decide (b <= a)),2)):=rfl
@[simp] theorem qGX (a b:Int):eqF [.int a,.int b] = some (.ok (.bool (a == b),2)):=rfl
@[simp] theorem qFY (a b:Int):neF [.int a,.int b] = some (.ok (.bool (!(a == b)),2)):=rfl
@[simp] theorem qGW (a b:List Nat):eqF [.str a,.str b] = some (.ok (.bool (a == b),2)):=rfl
@[simp] theorem qFW (a b:List Nat):neF [.str a,.str b] = some (.ok (.bool (!(a == b)),2)):=rfl
@[simp] theorem jOF (b:Bool):Qp (.bool b) = some b:=rfl
@[simp] theorem qHW (i:Int):Qp (.int i) = some (i != 0):=rfl
theorem zG (xs:List D) (h:xs.length <= big):YA [.list xs] = some (.ok (.int xs.length,2)):=if_pos h
theorem jU (xs:List Nat) (h:xs.length <= big):YA [.str xs] = some (.ok (.int xs.length,2)):=if_pos h
@[simp] theorem qAS (lv:Nat) (g:Tj):qID (.bool true,lv) g = g:=rfl
@[simp] theorem jVF (lv:Nat) (g:Tj):qID (.bool false,lv) g = some (.ok (.bool false,lv)):=rfl
@[simp] theorem qBR (lv:Nat) (g:Tj):orF (.bool true,lv) g = some (.ok (.bool true,lv)):=rfl
@[simp] theorem jXR (lv:Nat) (g:Tj):orF (.bool false,lv) g = g:=rfl
@[simp] theorem jYO (xs:List D) (lv:Nat):jPI "list" (.list xs,lv) = some (.ok (.bool true,2)):=rfl
@[simp] theorem qCH (xs:List Nat) (lv:Nat):jPI "str" (.str xs,lv) = some (.ok (.bool true,2)):=rfl
@[simp] theorem qCI (i:Int) (lv:Nat):jPI "int" (.int i,lv) = some (.ok (.bool true,2)):=rfl
@[simp] theorem jYP (i:Int) (lv:Nat):jPI "bool" (.int i,lv) = some (.ok (.bool false,2)):=rfl
theorem jSP (h:i < k) (hb:k <= big):jSQ k (i:Int) = some i:=by
 unfold jSQ
 rw [if_pos hb,if_pos (vBi i),if_pos (vCb.mpr h)]
 rfl
theorem jGQ {xs:List D} (h:xs[i]? = some d) (hb:xs.length <= big):JL [.list xs,.int (i:Int)] = some (.ok (d,0)):=by
 have hi:=(vBY.mp h).1
 show ((jSQ _ _).bind _) = _
 rw [jSP hi hb,Option.bind_some,h];rfl
theorem jYM {xs:List Nat} {d:Nat} (h:xs[i]? = some d) (hb:xs.length <= big):JL [.str xs,.int (i:Int)] = some (.ok (.str [d],2)):=by
 have hi:=(vBY.mp h).1
 show ((jSQ _ _).bind _) = _
 rw [jSP hi hb,Option.bind_some,h];rfl
theorem jR (k:Nat) (h:k <= lim):jEU [.int (k:Int)] = some (.ok ((List.range k).map fun (i:Nat)=>.int (i:Int))):=by
 have h2:(k:Int) <= 1000000000:=by unfold lim at h;exact lZ [(k:Int)] (.v 0) (.n 1000000000) [(.v 0,.n 10000000)] rT (zL h)
 have h3:((k:Int) - 0).toNat = k:=by exact rfl
 show qEA _ _ = _
 unfold qEA
 rw [if_pos ⟨by exact vBi _,by exact vBi _,h2,by exact vBi _,by rw [h3];exact h⟩,h3]
 simp
@[simp] theorem jRQ (occ:List Nat) (i:Nat) (a:Int) (lv:Nat) (Z:G):jGG occ i (.int a,lv) Z = Z.set i (some (.int a,2)):=rfl
@[simp] theorem qBE (occ:List Nat) (i:Nat) (a:List Nat) (lv:Nat) (Z:G):jGG occ i (.str a,lv) Z = Z.set i (some (.str a,2)):=rfl
@[simp] theorem jWP (occ:List Nat) (i:Nat) (a:Bool) (lv:Nat) (Z:G):jGG occ i (.bool a,lv) Z = Z.set i (some (.bool a,2)):=rfl
@[simp] theorem jWO (occ:List Nat) (i:Nat) (lv:Nat) (Z:G):jGG occ i (.none,lv) Z = Z.set i (some (.none,2)):=rfl
@[simp] theorem jTV (occ:List Nat) (i:Nat) (xs:List D) (Z:G):jGG occ i (.list xs,2) Z = Z.set i (some (.list xs,2)):=rfl
@[simp] theorem jYT (d:D) (lv:Nat) (Z:G):JH 0 (some (d,lv) :: Z) = some (.ok (d,0)):=rfl
@[simp] theorem jYU (i:Nat) (x:Option (D × Nat)) (Z:G):JH (i + 1) (x :: Z) = JH i Z:=rfl
@[simp] theorem qIX (d:D) (lv:Nat) (Z:G):jTX 0 (some (d,lv) :: Z) = some (.ret d lv):=rfl
@[simp] theorem qIY (i:Nat) (x:Option (D × Nat)) (Z:G):jTX (i + 1) (x :: Z) = jTX i Z:=rfl
@[simp] theorem jUL (i:Int):JZ (.int i) = 2:=rfl
@[simp] theorem jUK (i:List Nat):JZ (.str i) = 2:=rfl
@[simp] theorem jPG (i:List D):JZ (.list i) = 0:=rfl
@[simp] theorem jPH (i:Bool):JZ (.bool i) = 2:=rfl
@[simp] theorem jPF:JZ .none = 2:=rfl
@[simp] theorem qJP (fB:Th) (ix:Nat) (Z:G):Ym fB ix [] Z = some (.next Z):=rfl
theorem Zn {x:D} {xs:List D} (h:fB (Z.set ix (some (x,JZ x))) = some (.next Z')):Ym fB ix (x :: xs) Z = Ym fB ix xs Z':=congrArg (lpF · _) h
theorem jYG {x:D} {xs:List D} (h:fB (Z.set ix (some (x,JZ x))) = some (.ret d lv)):Ym fB ix (x :: xs) Z = some (.ret d lv):=congrArg (lpF · _) h
theorem jYI {x:D} {xs:List D} (h:fB (Z.set ix (some (x,JZ x))) = some (.brk Z')):Ym fB ix (x :: xs) Z = some (.next Z'):=congrArg (lpF · _) h
theorem jKO (h1:fT Z = some (.ok true)) (h2:fB Z = some (.next Z')):Zp fT fB (k + 1) Z = Zp fT fB k Z':=by rw [xg,h1,h2];rfl
theorem vV (h1:fT Z = some (.ok false)):Zp fT fB (k + 1) Z = some (.next Z):=by rw [xg,h1];rfl
theorem jYH {α:Type} (P:Nat -> G -> Prop) (xs:List D) (k:Nat) (Z:G) (h0:P k Z) (step:∀ (i:Nat) (Z:G) (x:D),xs[i]? = some x -> P (k + i) Z -> ∃ Z',fB (Z.set ix (some (x,JZ x))) = some (.next Z') /\ P (k + i + 1) Z') :
  ∃ Z',Ym fB ix xs Z = some (.next Z') /\ P (k + xs.length) Z':=by
 induction xs generalizing k Z with
 | nil=>exact ⟨Z,rfl,h0⟩
 | cons x xs ih =>
  refine nn fun gN=>?_
  obtain ⟨Z1z,h1,h2⟩:=step 0 Z x rfl h0
  obtain ⟨Z2y,h3,h4⟩:=ih (k + 1) Z1z h2 (fun i Z y hy hP=>by
   have:=step (i + 1) Z y (by simpa using hy) (by rw [show k + (i + 1) = k + 1 + i by exact vCI (lN [_,_] (.a (.v 0) (.a (.v 1) (.n 1))) (.a (.a (.v 0) (.n 1)) (.v 1)) [] rT) (lN [_,_] (.a (.a (.v 0) (.n 1)) (.v 1)) (.a (.v 0) (.a (.v 1) (.n 1))) [] rT)];exact hP)
   rw [show k + (i + 1) = k + 1 + i by exact vCI (lN [_,_] (.a (.v 0) (.a (.v 1) (.n 1))) (.a (.a (.v 0) (.n 1)) (.v 1)) [] rT) (lN [_,_] (.a (.a (.v 0) (.n 1)) (.v 1)) (.a (.v 0) (.a (.v 1) (.n 1))) [] rT)] at this
   exact this)
  refine gN ?_
  clear gN
  exact ⟨Z2y,(Zn h1).trans h3,by rw [List.length_cons,show k + (xs.length + 1) = k + 1 + xs.length by exact vCI (lN [_,_] (.a (.v 0) (.a (.v 1) (.n 1))) (.a (.a (.v 0) (.n 1)) (.v 1)) [] rT) (lN [_,_] (.a (.a (.v 0) (.n 1)) (.v 1)) (.a (.v 0) (.a (.v 1) (.n 1))) [] rT)];exact h4⟩
theorem jZX (g:D -> D):∀ (xs:List D),(∀ x ∈ xs,fC (YL cap Z x) = some (.ok true) /\ ∃ lv,fE (YL cap Z x) = some (.ok (g x,lv))) -> zR fE fC cap Z xs = some (xs.map g):=by
 intro xs
 induction xs with
 | nil =>
  intro _
  exact rfl
 | cons x xs ih =>
  intro h
  obtain ⟨h1,lv,h2⟩:=h x (vBA ..)
  rw [jJY,h1,h2,ih fun y hy=>h y (vBC _ hy)];rfl
theorem jJX {xs:List D} (h:zR fE fC cap Z xs = some ds):jN fE fC cap Z xs = some (.ok (.list ds,vg ds)):=by rw [jN,h];rfl
theorem zF (ts:Tc):vg (ts.map .str) = 2:=by unfold vg;rw [jUU];rfl
theorem jUW:∀ (ts:List Int),D.flats (ts.map .int) = true:=by
 intro ts
 induction ts with
 | nil =>
  exact rfl
 | cons t ts ih =>
  rw [List.map_cons,D.flats,ih];rfl
theorem kc (ts:List Int):vg (ts.map .int) = 2:=by unfold vg;rw [jUW];rfl
theorem jIV (xs:List D) (lv:Nat) (h:xs.length <= lim):itF (.list xs,lv) = some (.ok xs):=if_pos h
theorem jCW (lo hi:Option Int) (xs:List D) (h:xs.length <= lim):jAK lo hi (.list xs) = some (.ok (.list (Jf xs lo hi),vg (Jf xs lo hi))):=if_pos h
theorem Jm {np:Nat} {f:Th} (h:ds.length = np):fnF np k f ds = jNM (f (Xm k ds)):=by unfold fnF;rw [if_pos h]
theorem jZH {α:Type} {src:α -> D} [DecidableEq α] (h:∀ x y,D.eqb (src x) (src y) = true ↔ x = y):∀ (a b:List α),D.eqs (a.map src) (b.map src) = decide (a = b):=by
 intro a
 induction a with
 | nil=>exact fun b=>by cases b with | nil=>rfl | cons=>exact (decide_eq_false nofun).symm
 | cons x a ih =>
  intro b
  cases b with
  | nil=>exact (decide_eq_false nofun).symm
  | cons y b =>
  rw [List.map_cons,List.map_cons,jJQ,ih b,vCk,vBR,h,decide_eq_true_iff,decide_eq_true_iff,List.cons.injEq]
theorem jJZ {α:Type} {src:α -> D} (h:∀ x y,D.cmpb (src x) (src y) = true):∀ (a b:List α),D.cmps (a.map src) (b.map src) = true
 | [],[]=>rfl
 | [],_ :: _=>rfl
 | _ :: _,[]=>rfl
 | x :: a,y :: b=>by show (D.cmpb _ _ && D.cmps _ _) = _;rw [h,jJZ h a b];rfl
theorem jTA {α:Type} {src:α -> D} (h:∀ x,D.dep (src x) = 0):∀ (a:List α),D.deps (a.map src) = 0:=by
 intro a
 induction a with
 | nil =>
  exact rfl
 | cons x a ih =>
  rw [List.map_cons,jMG,ih,h];rfl
theorem jZK {α:Type} [DecidableEq α] (src:α -> D) (h1:∀ x y,D.eqb (src x) (src y) = true ↔ x = y) (h2:∀ x y,D.cmpb (src x) (src y) = true) (h3:∀ x,D.dep (src x) = 0) (a b:List α):eqF [.list (a.map src),.list (b.map src)] = some (.ok (.bool (decide (a = b)),2)):=by
 show (if D.cmps (a.map src) (b.map src) && decide (D.deps (a.map src) + 1 <= 100) then okB (D.eqs (a.map src) (b.map src)) else none) = _
 rw [jJZ h2,jTA h3,jZH h1];rfl
theorem qFX {α:Type} [DecidableEq α] (src:α -> D) (h1:∀ x y,D.eqb (src x) (src y) = true ↔ x = y) (h2:∀ x y,D.cmpb (src x) (src y) = true) (h3:∀ x,D.dep (src x) = 0) (a b:List α):neF [.list (a.map src),.list (b.map src)] = some (.ok (.bool (!decide (a = b)),2)):=by
 show (if D.cmps (a.map src) (b.map src) && decide (D.deps (a.map src) + 1 <= 100) then okB (!D.eqs (a.map src) (b.map src)) else none) = _
 rw [jJZ h2,jTA h3,jZH h1];rfl
theorem qEQ {a b:D} {k:Bool} (h1:D.cmpb a b = true) (h2:a.dep <= 100) (h3:D.eqb a b = k):eqF [a,b] = some (.ok (.bool k,2)):=(if_pos (by rw [h1,vBk h2];rfl)).trans (by rw [h3];rfl)
theorem qOD (ch:Nat) (x:List Nat):qLG [.str [ch],.str x] = some (.ok (.bool (!x.contains ch),2)):=rfl
theorem qCT (a b:Tc):eqF [.list (a.map .str),.list (b.map .str)] = some (.ok (.bool (decide (a = b)),2)):=jZK _ (fun _ _=>vBc) (fun _ _=>rfl) (fun _=>rfl) a b
theorem jCH (n k:Nat):clipAt n (k:Int) = min k n:=by
 have:=clipAt_cast n (k:Int)
 rw [if_neg (Int.not_lt.mpr (vBi _))] at this
 rcases Nat.le_total k n with h | h
 ·rw [Nat.min_eq_left h];rw [Int.min_eq_left (Int.ofNat_le.mpr h),Int.max_eq_right (vBi _)] at this;exact Int.ofNat.inj this
 ·rw [Nat.min_eq_right h];rw [Int.min_eq_right (Int.ofNat_le.mpr h),Int.max_eq_right (vBi _)] at this;exact Int.ofNat.inj this
theorem jOK {α:Type} (xs:List α) (k:Nat):Jf xs (some (k:Int)) none = xs.drop k:=by
 simp only [Jf,vCc,Option.elim_none,jCH]
 rw [vBw (by rw [vCF];exact vBI _)]
 by_cases h:k <= xs.length
 ·rw [Nat.min_eq_left h]
 ·rw [vCS (Nat.le_min.mpr ⟨Nat.le_of_not_le h,vBI _⟩),vCS (vBd (Nat.lt_of_not_le h))]
theorem jTT {α:Type} (xs:List α) (i j:Nat):Jf xs (some (i:Int)) (some (j:Int)) = (xs.drop i).take (j - i):=by
 simp only [Jf,vCc,jCH]
 by_cases h:i <= xs.length
 ·rw [Nat.min_eq_left h]
  by_cases h2:j <= xs.length
  ·rw [Nat.min_eq_left h2]
  ·rw [Nat.min_eq_right (Nat.le_of_not_le h2),vBw (by rw [vCF];exact vBI _),vBw (by rw [vCF];exact Nat.sub_le_sub_right (Nat.le_of_not_le h2) _)]
 ·rw [Nat.min_eq_right (Nat.le_of_not_le h),vCS (vBI _),vCS (Nat.le_of_not_le h),List.take_nil,List.take_nil]
section
variable {w:World} {s:Shared} {x D:Addr}
theorem qIF {Q:Option Value -> Shared -> Prop} (X:K.In s.heap) (I:PySem.W.InstAt s.heap x ox D none) (e:jPU K D = true) (h:Q (some (.ref D)) { s with toks:=s.toks + 1 }):wpAny (model prog w) A (getAttr? (.ref x) "__class__") Q E s:=by
 refine nn fun gN=>?_
 simp only [jPU,vBR,vBc] at e
 obtain ⟨⟨⟨⟨⟨⟨⟨e1,e2⟩,e3⟩,e4⟩,e5⟩,e6⟩,e7⟩,e8⟩:=e
 have hf:findObj K D none "__class__" = some (.bind (.builtin "getset_descriptor.__get__") (.builtin "object.__class__")):=by
  obtain ⟨cd,hc⟩:=vBe.mp e1
  unfold findObj
  rw [hc,Option.bind_some,e4,Option.bind_some]
  simp [e5,e6]
 obtain ⟨hh,g,d,t,os⟩:=s
 refine gN ?_
 unfold getAttr? getAttrBy? getAttrBy
 refine vBE (wpAny_mkText (vBE (wpAny_attempt (wpAny_holding (vBE ((I.type (M:=model prog w)).at (vBE ((looks_findIn (M:=model prog w) X e2).at ?_))))))))
 dsimp only
 rw [show (onTheHeap (Value.ref D) && Value.builtin "BaseException.__getattribute__" == Value.builtin "object.__getattribute__") = false from by rw [show (Value.builtin "BaseException.__getattribute__" == Value.builtin "object.__getattribute__") = false from by decide +kernel,vCq],if_neg (by decide)]
 unfold getAttrByItsOwn
 refine vBE ((looks_hook X (by rw [show onTheHeap (Value.ref D) = true from rfl,if_pos rfl];exact e3):Looks (model prog w) hh (hookBefore (.ref D)) none).at (vBE (wpAny_attempt (wpAny_holding ?_))))
 unfold callGetattribute
 rw [show (false && onTheHeap (Value.builtin "BaseException.__getattribute__")) = false from rfl,if_neg (by decide)]
 unfold boundAndCalled
 rw [PySem.F.attrBase_ValueError.ga.bind]
 refine vBE (vBM ?_)
 refine vCi (codeAny_call_builtin PySem.F.attrBase_ValueError.ga.plain F.entry_bexc_ga ?_)
 refine @check_slot (model prog w) _ _ ⟨hh,g,d,t + 1,os⟩ "BaseException.__getattribute__" "BaseException" "__getattribute__" (.ref x) [.str "__class__" t] [] _ (by decide +kernel) (by decide +kernel) ((I.type (M:=model prog w)).andThen (looks_subIn X e8)) (F.args_bexc_ga (.ref x) (.str "__class__" t)) ?_
 unfold Builtin.«object.__getattribute__»
 refine vBE (vBM ?_)
 refine vBE (vBM ?_)
 refine vBE ((I.type (M:=model prog w)).at (vBE ((looks_find (M:=model prog w) X I hf).at ?_)))
 refine vBE (wpAny_holding (vCi (class_get (s:=⟨hh,g,d,t + 1,os⟩) (ox:=ox) (od:=none) X I e7 ?_)))
 refine vBM ?_
 exact handed_on rfl (vBM h)
theorem qEW {c:Value} {b:Bool} {dep:Int} {tk:Tok} {Q:Fin -> Shared -> Prop} (X:K.In s.heap) (I:PySem.W.InstAt s.heap x ox D none) (e:jPU K D = true) (hk:kitCls K (.ref D) c = some b) (hne:(Value.ref D == c) = true -> b = true)
  (h:∀ t,s.toks <= t -> Q (.done (.ret (.bool b))) { s with toks:=t }) :
  wpAny (model prog w) A (Builtin.«isinstance.nested» ⟨[.ref x,c,.int dep tk],[]⟩) Q E s:=by
 refine nn fun gN=>?_
 obtain ⟨hty,his,hsub⟩:=kit_cls (M:=model prog w) X hk
 have e':=e
 simp only [jPU,vBR,vBc] at e'
 obtain ⟨⟨⟨⟨⟨⟨⟨e1,e2⟩,e3⟩,e4⟩,e5⟩,e6⟩,e7⟩,e8⟩:=e'
 have hisD:Looks (model prog w) s.heap (isType (.ref D)) true:=by
  obtain ⟨cdD,hcD⟩:=vBe.mp e1
  unfold clsIn at hcD
  split at hcD
  ·rename_i c' d' cd' sl' ho
   intro A' Q' E' s' k q
   unfold isType loadHead
   exact vBE (wpAny_loadPart (k _ _ (X _ _ ho)) (vBM q))
  ·exact nos hcD
 obtain ⟨h0,g,d,tt,os⟩:=s
 have hend:=h tt (vBI _)
 refine gN ?_
 unfold Builtin.«isinstance.nested»
 refine vBE ((I.type (M:=model prog w)).at ?_)
 by_cases q:(Value.ref D == c) = true
 ·rw [if_pos q]
  rw [hne q] at hend
  exact vBE (wpAny_rule (vBE (vBM (vBM hend))))
 ·rw [if_neg q]
  refine vBE (hty.at ?_)
  rw [if_pos (by decide)]
  k_delta "plainIsInstance"
  refine vBE (vBE (his.at ?_))
  simp only [vCh,Bool.false_eq_true,if_false]
  refine vBE (((I.type (M:=model prog w)).andThen hsub:Looks (model prog w) h0 (isInstance (.ref x) c) b).at ?_)
  cases b with
  | true =>
   simp only [if_true]
   exact vBM (vBM hend)
  | false =>
   simp only [Bool.false_eq_true,if_false]
   refine vBE (qIF X I e ?_)
   refine vBE (hisD.at ?_)
   simp only [vCh,Bool.false_eq_true,if_false]
   refine vBE (wpAny_rule ?_)
   refine hsub.at ?_
   first
    | exact vBM (h (tt + 1) (vCW _))
    | exact vBM (vBM (h (tt + 1) (vCW _)))
    | exact vBE (vBM (vBM (h (tt + 1) (vCW _))))
theorem qIG {c:Value} {b:Bool} {Q:Ta} (X:K.In s.heap) (I:PySem.W.InstAt s.heap x ox D none) (e:jPU K D = true) (hk:kitCls K (.ref D) c = some b) (hne:(Value.ref D == c) = true -> b = true)
  (h:∀ t,s.toks <= t -> Q (.bool b) { s with toks:=t }):wpAny (model prog w) A (call (.builtin "isinstance") [.ref x,c]) Q E s :=
 call_isinstance (S:=fun _ R s=>(K.In s.heap /\ PySem.W.InstAt s.heap x ox D none) /\ ∀ t,s.toks <= t -> R (.ok (.ret (.bool b))) { s with toks:=t })
  (fun _ _ _ _ _ hs=>isinstance_outer (qEW hs.1.1 hs.1.2 e hk hne hs.2) (by intro q;cases q)) ⟨⟨X,I⟩,h⟩
end
structure Xs (c:Cx):Prop where
 ex:∃ K:Frag,K.In c.base /\ ∀ k ∈ excNames,∃ C,c.mg k = some (.ref C) /\ jPU K C = true /\ OwnClsQ k C bmV "ValueError.__new__" c.mg c.base /\ kitCls K (.ref C) (.type "ValueError") = some true /\ 
  ∀ k' ∈ excNames,∃ C',c.mg k' = some (.ref C') /\ exmOne K (.ref C) (.ref C') = some (qDX k k') /\ (C = C' -> qDX k k' = true)
 ve:Glb c "ValueError" (.type "ValueError")
section
variable {n:Nat}
def zu (T:Str) (a:D × Nat):Tj:=match a.1 with
 | .exc k=>if excNames.contains k && excNames.contains T then okB (qDX k T) else none
 | _=>none
theorem jSW {v:Value} {k:Str} (r:Rp c.mg h v (.exc k) fp) (hC:c.mg k = some (.ref C)):∃ a o,v = .ref a /\ PySem.W.InstAt h a o C none:=by
 obtain ⟨h0,h1,h2,h3,h4⟩:=r.inv
 rw [hC] at h0;cases h0
 exact ⟨_,_,rfl,⟨h1,h2,by unfold notCls;rw [h3],by rw [h4];trivial⟩⟩
theorem Yb (ok:c.Ok) (hg:Glb c "isinstance" (.builtin "isinstance")) (X:Xs c) (h1:Den c hm n sc nm e o1 f)
  (hk:autoParam (sc.names.lookup ("isinstance":Str) = some .globalImplicit) yK) (hk2:autoParam (sc.names.lookup x = some .globalImplicit) yK) (hd:autoParam ((x == ("__debug__":Str)) = false) yK) (hs:autoParam (QC e) yN) :
  Den c hm n sc nm (.Call (.Name "isinstance" np) [e,.Name x tp] [] pos) [] (fun Z=>JR (f Z) (zu x)):=by
 intro A l env Z vf s r Q E hsc hR hRd hf hQ hE
 obtain ⟨m,hn⟩:=hRd.ns
 refine Call_ (J8 ok hRd hsc hk (by rfl) hg ?_) (by rfl)
 refine vBq ?_ (hs _ _)
 refine args_cons (h1.run hsc hR hRd hf (fun d la _ hg2 va fa s1z st1z ra ta lva hR1 hRd1=>?_) hE) (hs _ _)
 unfold zu at hg2
 cases d with
 | exc k =>
  dsimp only at hg2
  split at hg2
  ·refine nn fun gN=>?_
   rename_i hc
   obtain rfl:=vAy hg2
   simp only [vBR,vBj] at hc
   obtain ⟨K,hK,hX⟩:=X.ex
   obtain ⟨C,c1,c2,c3,c4,c5⟩:=hX k hc.1
   obtain ⟨C',d1,d2,d3⟩:=c5 x hc.2
   obtain ⟨a,o,rfl,I⟩:=jSW ra c1
   refine gN ?_
   clear gN
   refine args_cons (J8 ok hRd1 hsc hk2 hd (.inl d1) (vCg ?_))
   have hkc:kitCls K (.ref C) (.ref C') = some (qDX k x):=by
    unfold exmOne at d2
    split at d2
    ·exact d2
    ·exact nos d2
   refine qIG (hK.keeps hRd1.bs.1) I c2 hkc (fun q=>d3 ?_) fun t ht=>?_
   ·simpa using q
   ·exact hQ _ _ _ _ _ rfl (st1z.trans (St.toks hRd1.bs _ (by have:=hRd1.bs.2;exact vAz this ht))) (.bool _) Tr.nil (Lv.nil _ _)
  ·exact nos hg2
 | _=>exact nos hg2
def qGI (a:D × Nat):Tj:=match a.1 with
 | .exc k=>if excNames.contains k then okB true else none
 | _=>none
theorem qDA (ok:c.Ok) (hg:Glb c "isinstance" (.builtin "isinstance")) (X:Xs c) (h1:Den c hm n sc nm e o1 f)
  (hk:autoParam (sc.names.lookup ("isinstance":Str) = some .globalImplicit) yK) (hk2:autoParam (sc.names.lookup ("ValueError":Str) = some .globalImplicit) yK) (hs:autoParam (QC e) yN) :
  Den c hm n sc nm (.Call (.Name "isinstance" np) [e,.Name "ValueError" tp] [] pos) [] (fun Z=>JR (f Z) qGI):=by
 intro A l env Z vf s r Q E hsc hR hRd hf hQ hE
 obtain ⟨m,hn⟩:=hRd.ns
 refine Call_ (J8 ok hRd hsc hk (by rfl) hg ?_) (by rfl)
 refine vBq ?_ (hs _ _)
 refine args_cons (h1.run hsc hR hRd hf (fun d la _ hg2 va fa s1z st1z ra ta lva hR1 hRd1=>?_) hE) (hs _ _)
 unfold qGI at hg2
 cases d with
 | exc k =>
  dsimp only at hg2
  split at hg2
  ·refine nn fun gN=>?_
   rename_i hc
   obtain rfl:=vAy hg2
   simp only [vBj] at hc
   obtain ⟨K,hK,hX⟩:=X.ex
   obtain ⟨C,c1,c2,c3,c4,c5⟩:=hX k hc
   obtain ⟨a,o,rfl,I⟩:=jSW ra c1
   refine gN ?_
   clear gN
   refine args_cons (J8 ok hRd1 hsc hk2 (by rfl) X.ve (vCg ?_))
   refine qIG (hK.keeps hRd1.bs.1) I c2 c4 (fun q=>rfl) fun t ht=>?_
   exact hQ _ _ _ _ _ rfl (st1z.trans (St.toks hRd1.bs _ (by have:=hRd1.bs.2;exact vAz this ht))) (.bool _) Tr.nil (Lv.nil _ _)
  ·exact nos hg2
 | _=>exact nos hg2
theorem J4 {t:Str} {p cpos:Pos} (ok:c.Ok) (X:Xs c) (hx:autoParam (excNames.contains x = true) yK) (hk:autoParam (sc.names.lookup x = some .globalImplicit) yK) (hd:autoParam ((x == ("__debug__":Str)) = false) yK) :
  jKM c false n sc nm (.Raise (some (.Call (.Name x np) [.Constant (.str t) k p] [] cpos)) none pos) (fun _=>some (.raise x)):=by
 intro A l env h0z f0 Z vf s r Q E hsF hR iv hf hQ hE
 refine nn fun gN=>?_
 obtain rfl:=vAy hf
 obtain ⟨K,hK,hX⟩:=X.ex
 obtain ⟨C,c1,c2,O,_⟩:=hX x (vBj.mp hx)
 obtain ⟨tl,N,nm',q,bs,hdct,sn,sub,ab,col,dd,k0,k1,k2,k3,k5,mN,hC,hN,hq,T⟩:=O.obj
 refine gN ?_
 refine wpAny_Raise_call_subT (C:=C) (nm:=nm') (q:=q) (N:=N) (bs:=bs) (bm:=tl) (hdct:=hdct) (sn:=sn) (sub:=sub) (ab:=ab) (col:=col) (dd:=dd) (k0:=k0) (k1:=k1) (k2:=k2) (k3:=k3) (k5:=k5)
  PySem.F.excBase_ValueError (mN:=mN) (T.tail.hasType PySem.F.excBase_ValueError.hasBase) hR.hm rfl (hq _ (.head _)) (J8 ok iv.rd hsF.1 hk hd (.inl c1) ⟨rfl,?_⟩)
 refine Calls.evalArgs_plain (args_cons (Constant_str (vCg ⟨rfl,by unfold sizeLine;exact vBr _,?_,?_,?_,fun h' e hm=>?_⟩)))
 ·exact iv.rd.bs.1 _ _ hC
 ·exact hN.keeps iv.rd.bs.1
 ·exact T.tail.keeps iv.rd.bs.1
 ·refine hE _ _ ⟨⟨h',s.toks + 1,rfl⟩,⟨fun b o e=>hm.keeps b o (iv.rd.bs.1 b o e),by exact vBr _⟩,s.heap,e,C,_,rfl,c1,hm,iv.kb,iv.rd.bs.1,hR.ok⟩
end
section
variable {n:Nat} {s:Shared}
theorem Iv.drop {m:Str -> Option Value} (iv:Iv c h0z f0 env nm Z vf s) (hn:s.heap.Ns env.locals m) (hn':h'.Ns env.locals m') (hs':Heap.SameBut env.locals s.heap h') (htk:1 <= tk)
  (hm:∀ (j:Nat) (d:D) (lv:Nat) (y:Str),Z[j]? = some (some (d,lv)) -> nm[j]? = some y -> m' y = m y):Stp c h0z f0 env nm Z vf s Z vf { s with heap:=h',toks:=tk }:=by
 have k:∀ b o,s.heap.get? b = some o -> JW o -> h'.get? b = some o:=fun b o e nd=>hs'.extBut b o (zB hn e nd) e
 have hgone:∀ b,h'.get? b = none -> s.heap.get? b = none:=fun b hb=>by
  cases q:s.heap.get? b with
  | none=>rfl
  | some o =>
   by_cases hbL:b = env.locals
   ·subst hbL;obtain ⟨o',_,_,h1,_⟩:=hn';rw [hb] at h1;exact nos h1
   ·have:=hs'.extBut b o hbL q;rw [hb] at this;exact nos this
 refine ⟨⟨⟨⟨fun b o e=>hs'.extBut b o (fun q=>by rw [q,iv.rd.nb] at e;exact nos e) (iv.rd.bs.1 b o e),htk⟩,⟨m',hn'⟩,iv.rd.nb,iv.rd.fn,iv.rd.gl,iv.rd.bl,iv.rd.cl,fun i d lv e=>?_⟩,
  fun b o _ e=>?_,iv.nl,fun y a e=>?_,iv.cd,iv.nd,fun i a ha=>?_,iv.org,fun i d lv e q a t r=>?_,fun i d lv e q=>?_,iv.bh⟩,⟨h',tk,rfl⟩,fun b o hb e=>?_,fun b hb=>.inl hb,hgone⟩
 ·refine nn fun gN=>?_
  obtain ⟨y,h1,⟨b1,b2,b3⟩,h3⟩:=iv.rd.var i d lv e
  refine gN ?_
  clear gN
  refine ⟨y,h1,⟨b1,b2,?_⟩,h3.keep k⟩
  rcases b3 with ⟨b4,m'',b5,b6⟩ | ⟨b4,cl,b5,o,b6,b7⟩
  ·refine .inl ⟨b4,m',hn',?_⟩
   rw [jDI b5 hn] at b6
   rw [hm i d lv y e h1];exact b6
  ·exact .inr ⟨b4,cl,b5,o,k cl o b6 (Jd b7),b7⟩
 ·obtain ⟨h1,sl,h2⟩:=iv.kb b o id e
  have hb:b ≠ env.locals:=fun q=>by rw [q,iv.nl] at e;exact nos e
  exact ⟨fun nd=>hs'.extBut b o hb (h1 nd),sl,hs'.extBut b _ hb h2⟩
 ·refine nn fun gN=>?_
  obtain ⟨h1,v,o,h2,h3⟩:=iv.ce y a e
  refine gN ?_
  clear gN
  exact ⟨h1,v,o,k a o h2 (Jd h3),h3⟩
 ·refine nn fun gN=>?_
  obtain ⟨o,vs,j,h1,h2,h3⟩:=iv.al i a ha
  refine gN ?_
  clear gN
  exact ⟨o,vs,j,k a o h1 (JK h3),h2,h3⟩
 ·refine nn fun gN=>?_
  obtain ⟨h1,h2,⟨o,vs,j,w1,w2,w3⟩,h4⟩:=iv.own1 i d lv e q a t r
  refine gN ?_
  clear gN
  exact ⟨h1,h2,⟨o,vs,j,k a o w1 (JK w2),w2,w3⟩,h4⟩
 ·obtain ⟨h1,h2⟩:=iv.own2 i d lv e q
  refine ⟨fun a ha=>?_,h2⟩
  refine nn fun gN=>?_
  obtain ⟨w0,⟨o,vs,j,w1,w2,w3⟩,w4⟩:=h1 a ha
  refine gN ?_
  clear gN
  exact ⟨w0,⟨o,vs,j,k a o w1 (JK w2),w2,w3⟩,w4⟩
 ·have hbL:b ≠ env.locals:=fun q=>hb (.inl q)
  exact ⟨fun _=>hs'.extBut b o hbL e,o.slots,hs'.extBut b o hbL e⟩
theorem RetP.drop {v:Value} (hnl:h0z.get? env.locals = none) (hnb:c.base.get? env.locals = none) (p:RetP c h0z f0 env Z vf s d lv v s') (hn':h'.Ns env.locals m') (hs':Heap.SameBut env.locals s'.heap h') (htk:1 <= tk) :
  RetP c h0z f0 env Z vf s d lv v { s' with heap:=h',toks:=tk }:=by
 refine nn fun gN=>?_
 obtain ⟨⟨h,tk0,e⟩,q2,q3,q4,⟨m,hn⟩,fp,q5,q6,q7⟩:=p
 have k:∀ b o,s'.heap.get? b = some o -> JW o -> h'.get? b = some o:=fun b o e nd=>hs'.extBut b o (zB hn e nd) e
 refine gN ?_
 clear gN
 refine ⟨⟨h',tk,by rw [e]⟩,fun b o hb e=>?_,fun b o _ e=>?_,⟨fun b o e=>hs'.extBut b o (fun q=>by rw [q,hnb] at e;exact nos e) (q4.1 b o e),htk⟩,⟨m',hn'⟩,fp,q5.keep k,q6,q7.nd fun a ⟨o,vs,j,w1,w2,w3⟩=>⟨o,vs,j,k a o w1 (JK w2),w2,w3⟩⟩
 ·obtain ⟨h1,sl,h2⟩:=q2 b o hb e
  have hbL:b ≠ env.locals:=fun q=>hb (.inl q)
  exact ⟨fun nd=>hs'.extBut b o hbL (h1 nd),sl,hs'.extBut b _ hbL h2⟩
 ·obtain ⟨h1,sl,h2⟩:=q3 b o id e
  have hbL:b ≠ env.locals:=fun q=>by rw [q,hnl] at e;exact nos e
  exact ⟨fun nd=>hs'.extBut b o hbL (h1 nd),sl,hs'.extBut b _ hbL h2⟩
noncomputable def qNO (i:Nat) (r:Option O):Option O:=match r with
 | some (.next Z'')=>some (.next (Z''.set i none))
 | some (.ret d lv)=>some (.ret d lv)
 | _=>none
noncomputable def qLD (r:Option O) (K:Str -> Th):Option O:=match r with
 | some (.exc k Z')=>K k Z'
 | some (.next Z')=>some (.next Z')
 | some (.ret d lv)=>some (.ret d lv)
 | _=>none
def qHV (T:Str) (i:Nat) (fB fH:Th) (Z:G):Option O:=qLD (fB Z) fun k Z'=>if excNames.contains k && qDX k T then qNO i (fH (Z'.set i (some (.exc k,2)))) else none
theorem qIL {k:Str} {K:Str -> Th}:qLD (some (.exc k Z)) K = K k Z:=rfl
theorem qIK {K:Str -> Th}:qLD (some (.next Z)) K = some (.next Z):=rfl
theorem qIJ {K:Str -> Th}:qLD (some (.ret d lv)) K = some (.ret d lv):=rfl
theorem qII:qNO i (some (.ret d lv)) = some (.ret d lv):=rfl
theorem jTB {T:Str} {hp:Pos} {b0:Stmt} {suite:List Stmt} {fH:Th} (i:Nat) (ok:c.Ok) (X:Xs c) (hB:kn c false n sc nm body fB) (hH:kn c true n sc nm (b0 :: suite) fH)
  (hT:autoParam (excNames.contains T = true) yK) (hx:autoParam (nm[i]? = some x) yL) (hkl:autoParam (sc.names.lookup x = some .local) yK) (ho:autoParam (jNN x = true) yK)
  (hk:autoParam (sc.names.lookup T = some .globalImplicit) yK) (hd:autoParam ((T == ("__debug__":Str)) = false) yK) :
  jKM c false n sc nm (.Try body [.ExceptHandler (some (.Name T tp)) (some x) (b0 :: suite) hp] [] [] pos) (qHV T i fB fH):=by
 intro A l env h0z f0 Z vf s r Q E hsF hR iv hf hQ hE
 refine nn fun gN=>?_
 obtain ⟨outer,hl⟩:∃ outer,l = env :: outer:=by
  cases l with
  | nil=>exact nos hsF.2.1
  | cons a r=>obtain rfl:=(vAy hsF.2.1).symm;exact ⟨_,rfl⟩
 subst hl
 refine gN ?_
 refine wpAny_Try_except ?_
 unfold qHV at hf
 cases hfb:fB Z with
 | none=>rw [hfb] at hf;exact nos hf
 | some o =>
  rw [hfb] at hf
  refine hB A _ env h0z f0 Z vf s o _ _ hsF hR iv hfb (fun w s' p=>?_) (fun y s' p=>?_)
  ·cases o with
   | next Z' =>
    cases w <;> first | exact p.elim | skip
    exact vBp (hQ _ _ (by rw [<- (vAy hf)];exact p))
   | ret d lv =>
    cases w <;> first | exact p.elim | skip
    exact hQ _ _ (by rw [<- (vAy hf)];exact p)
   | brk Z'=>exact nos hf
   | cont Z'=>exact nos hf
   | exc k Z'=>exact p.elim
   | raise k=>exact p.elim
  ·cases o with
   | next Z'=>exact p.elim
   | ret d lv=>exact p.elim
   | brk Z'=>exact p.elim
   | cont Z'=>exact p.elim
   | raise k=>exact nos hf
   | exc k Z' =>
    obtain ⟨hc,hf⟩:=ifs hf
    ·simp only [vBR,vBj] at hc
     obtain ⟨vf',s1z,sp,a,C,t,bs,rfl,q2,q3,q4,q5,q6,q7,q8⟩:=p
     obtain ⟨m1z,hn1z⟩:=sp.iv.rd.ns
     have stAll:∀ h',bs.StaysIn h' -> s'.heap.UpToSlots h' -> St c env.locals s1z { s' with heap:=h' }:=fun h' hb hu=>by
      have hdct:∀ b o,s1z.heap.get? b = some o -> b ≠ env.locals -> ∃ sl,h'.get? b = some { o with slots:=sl }:=fun b o e hbL=>by
       by_cases nd:JW o
       ·exact ⟨o.slots,hb b o (q5 b o e nd)⟩
       ·obtain ⟨sl,e2⟩:=q3.kp.dct b o hbL e
        obtain ⟨sl',e3⟩:=hu b _ e2 fun vs q=>nd (JS q)
        exact ⟨sl',e3⟩
      obtain ⟨hh,tk,e⟩:=q3.same
      exact ⟨⟨h',s'.toks,by rw [e]⟩,⟨fun b o _ e nd=>hb b o (q5 b o e nd),fun b o hbL e=>hdct b o e hbL,fun m hm=>hu.ns (q3.kp.ns m hm)⟩,fun b o e=>hb b o (q4 b o e),q3.bs.2⟩
     refine qJL hR.fr hsF.2.2 q7 q8 fun h2z hh2 hc2z hu2=>?_
     refine jYK (s:={ s' with heap:=h2z }) hh2 hc2z fun h3z hf3 hc3z hk3z=>?_
     refine nn fun gN=>?_
     have st3z:=stAll h3z hf3.1 (hu2.trans fun b o hb hn=>⟨o.slots,hk3z b o hb hn⟩:s'.heap.UpToSlots h3z)
     obtain ⟨K,hK,hX⟩:=X.ex
     obtain ⟨Ck,c1,c2,c3,c4,c5⟩:=hX k hc.1
     refine gN ?_
     rw [q2] at c1;cases c1
     refine nn fun gN=>?_
     obtain ⟨C',d1,d2,d3⟩:=c5 T (vBj.mp hT)
     rw [hc.2] at d2
     refine gN ?_
     refine wpAny_handleBy_cons ?_ (by intro q;cases q)
     refine codeAny_handlers_test (J8 ok (sp.iv.keep st3z).rd hsF.1 hk hd (.inl d1) ?_)
     refine nn fun gN=>?_
     obtain ⟨oe,heo,hecls⟩:=hf3.there
     refine gN ?_
     refine (exm_one (hK.keeps (sp.iv.keep st3z).rd.bs.1) (hecls ▸ (Looks.ld heo).andThen .now) d2:Looks (model c.prog c.w) h3z (excMatches (.ref a) (.ref C')) true) _ _ _ _ (fun _ _ e=>e) ?_
     simp only [if_true]
     refine codeAny_handlers_suite_as ?_
     refine qEK (s:={ s' with heap:=h3z }) hf3.1 hf3.2.1 hf3.2.2.1 hf3.2.2.2.at hc3z fun h4z hf4 hc4 hk4z=>?_
     refine nn fun gN=>?_
     obtain ⟨oe4,vs4,w1,w2,w3,w4⟩:=hc4
     obtain ⟨oe5,heo5,hecls5⟩:=hf4.there
     refine gN ?_
     rw [w1] at heo5;obtain rfl:=vAy heo5
     refine store (occ:=[]) (lv:=2) sp.iv (stAll h4z hf4.1 ((hu2.trans fun b o hb hn=>⟨o.slots,hk3z b o hb hn⟩:s'.heap.UpToSlots h3z).trans fun b o hb hn=>⟨o.slots,hk4z b o hb hn⟩:s'.heap.UpToSlots h4z)) (.exc q2 w1 hecls5 ⟨w2,w4⟩:Rp c.mg h4z (.ref a) (.exc k) []) Tr.nil (Lv.nil _ _) hsF.1 hx (by unfold stK;rw [vBk hkl];rfl) ho fun s5 sp5 hkeep5=>?_
     have spA:=sp.trans sp5
     rw [(rfl:jGG [] i (.exc k,2) Z' = Z'.set i (some (.exc k,2)))] at sp5 spA
     have hR5z:=spA.room iv hR
     have hRx:Room c true n (A.mark (some (.ref a))) (env :: outer) s5.heap:=by
      refine ⟨hR5z.fr,hR5z.ok,hR5z.depth,hR5z.units,a,oe4,vs4,rfl,?_,w2,w3⟩
      refine hkeep5 a oe4 (fun q=>?_) (fun y q=>?_) w1
      ·obtain ⟨o',_,_,z,_⟩:=hn1z;rw [<- q,q6] at z;exact nos z
      ·obtain ⟨_,_,o',z,_⟩:=sp.iv.ce y a q;rw [q6] at z;exact nos z
     cases hfh:fH (Z'.set i (some (.exc k,2))) with
     | none=>rw [hfh] at hf;exact nos hf
     | some oh =>
      rw [hfh] at hf
      refine hH (A.mark (some (.ref a))) _ env h0z f0 _ _ s5 oh _ _ hsF hRx sp5.iv hfh (fun w s6 p=>?_) (fun y s6 p=>?_)
      ·cases oh with
       | next Z'' =>
        cases w <;> first | exact p.elim | skip
        obtain ⟨vf'',p⟩:=p
        obtain ⟨m6,hn6z⟩:=p.iv.rd.ns
        refine wpAny_nameGoes_keeps (by unfold Env.kindOf;rw [hsF.1];exact hkl:env.kindOf x = some .local) hn6z (by rw [iv.rd.fn];rfl:(env.scope.kind == .class || (env.scope.kind == .module && env.locals != env.globals)) = false) fun h7z u hn7 hs7=>?_
        have dr:=(p.iv.wk (jHI i Z'':Wk (Z''.set i none) Z'')).drop (tk:=s6.toks + 1) hn6z hn7 hs7 (vBr _) fun j d lv y e hy=>by
         simp [(jSL iv.nd hx hy (fun q=>(sng e).1 q.symm:j ≠ i):y ≠ x)]
        exact hQ _ _ (by rw [<- (vAy hf)];exact ⟨vf'',(spA.trans p).trans ((p.iv.wkS (jHI i Z'':Wk (Z''.set i none) Z'')).trans dr)⟩)
       | ret d lv =>
        cases w <;> first | exact p.elim | skip
        obtain ⟨m6,hn6z⟩:=p.ns
        refine wpAny_nameGoes_keeps (by unfold Env.kindOf;rw [hsF.1];exact hkl:env.kindOf x = some .local) hn6z (by rw [iv.rd.fn];rfl:(env.scope.kind == .class || (env.scope.kind == .module && env.locals != env.globals)) = false) fun h7z u hn7 hs7=>?_
        exact hQ _ _ (by rw [<- (vAy hf)];exact (Post.back (nm:=nm) (o:=.ret d lv) (f:=.ret _) spA (p.drop (tk:=s6.toks + 1) iv.nl iv.rd.nb hn7 hs7 (vBr _))))
       | brk Z''=>exact nos hf
       | cont Z''=>exact nos hf
       | exc k Z''=>exact nos hf
       | raise k=>exact nos hf
      ·cases oh <;> first | exact p.elim | cases hf
end
section
variable {n:Nat}
noncomputable def qf:List D -> Option (List Int)
 | []=>some []
 | .int i :: r=>(qf r).map (i :: ·)
 | _=>none
theorem jGR (ns:List Int):qf (ns.map .int) = some ns:=by
 induction ns with
 | nil=>rfl
 | cons t ts ih=>show (qf _).map _ = _;rw [ih];rfl
theorem jPJ (h:qf (d :: ds) = some ns):∃ i ns',d = .int i /\ qf ds = some ns' /\ ns = i :: ns':=by
 cases d with
 | int i=>obtain ⟨ns',h1,h2⟩:=vBD.mp h;exact ⟨i,ns',rfl,h1,h2.symm⟩
 | _=>exact nos h
theorem xt (r:Rps X h vs ds fp) (e:qf ds = some ns):∃ xs:List (Int × Tok),vs = xs.map (fun p=>.int p.1 p.2) /\ xs.map (·.1) = ns :=
 r.ind (Ps:=fun vs ds _=>∀ ns,qf ds = some ns -> ∃ xs:List (Int × Tok),vs = xs.map (fun p=>.int p.1 p.2) /\ xs.map (·.1) = ns) (fun ns e=>⟨[],rfl,vAy e⟩)
  (fun r _ ih ns e=>by
   refine nn fun gN=>?_
   obtain ⟨i,ns',rfl,e1,rfl⟩:=jPJ e
   obtain ⟨t,rfl,rfl⟩:=r.inv
   obtain ⟨l,rfl,rfl⟩:=ih ns' e1
   refine gN ?_
   clear gN
   exact ⟨(i,t) :: l,rfl,rfl⟩) ns e
theorem jXL (val:Nat -> Int):∀ (ns:List Int),(∀ i (h:i < ns.length),val i = ns[i]) -> preSum val ns.length = ns.sum:=by
 intro ns h
 have key:∀ j,j <= ns.length -> preSum val j = (ns.take j).sum:=by
  intro j
  induction j with
  | zero=>intro _;simp [preSum]
  | succ j ih =>
   intro hj
   rw [preSum,ih (vBd hj),List.take_succ_eq_append_getElem (hj),List.sum_append,h j (hj)]
   simp
 rw [key _ (vBI _),List.take_length]
theorem Hm.in1 (x:Hm hm A h):Hm hm A.in1 h:=by
 cases hm with
 | false=>exact x
 | true=>obtain ⟨a,o,vs,h1,h2,h3,h4⟩:=x;exact ⟨a,o,vs,h1,h2,h3,h4⟩
def qNP (ds:List D):Tj:=qFR ds fun d=>ofL d fun xs=>(qf xs).bind fun ns=>okI ns.sum
theorem qJD:OpN c hm n (fun vs=>call (.builtin "sum") vs) qNP:=by
 intro A l L m s vs ds fp r Q E hR hn nb hb rs hf hQ hE
 refine nn fun gN=>?_
 obtain ⟨d,rfl,hf⟩:=j0 hf
 obtain ⟨es,rfl,hf⟩:=Zh hf
 obtain ⟨ns,hns,hf⟩:=vBG.mp hf
 ·obtain ⟨va,rfl,ra⟩:=rs.inv1
  ·skip
   obtain ⟨x,vx,f,hx,rx⟩:=QR ra
   obtain ⟨xs,h1,h2⟩:=xt rx hns
   refine gN ?_
   refine call_sum_walkAnyS (vCT hx ?_)
   refine nn fun gN=>?_
   obtain ⟨fpw,W,hW,h0,hfp,_,hWI⟩:=qn (prog:=c.prog) (w:=c.w) (hm:=hm) (A:=A.in1) hR.hm.in1 hx
   refine gN ?_
   clear gN
   refine ⟨_,fpw,_,_,_,_,_,fun i=>ns.getD i 0,rfl,hW.toS,h0,fun b hb=>?_,fun i v hv=>?_,fun s' t' hM=>?_⟩
   ·by_cases q:b = s.heap.objs.size
    ·rw [q];rw [vCa];exact vCd _
    ·obtain ⟨o,e,_⟩:=hfp b hb q;exact vBb e
   ·have e:vx.toList[i]? = some v:=by simpa using hv
    rw [h1,vBg] at e
    obtain ⟨p,e1,rfl⟩:=vBD.mp e
    refine ⟨p.2,?_⟩
    have:ns[i]? = some p.1:=by rw [<- h2,vBg,e1];rfl
    dsimp only
    rw [vBJ,this];rfl
   ·have hsum:preSum (fun i=>ns.getD i 0) vx.size = ns.sum:=by
     rw [(by rw [<- h2,vBF,<- vCN,h1,vBF]:vx.size = ns.length)]
     exact jXL _ ns fun i hi=>by rw [vBJ,vBP hi];rfl
    rw [hsum]
    obtain ⟨m1,m2,m3,m4,m5⟩:=hM
    have hs':s' = { s with heap:=s'.heap,toks:=s'.toks }:=by
     obtain ⟨a1,a2,a3,a4,a5⟩:=s'
     dsimp only at m2 m3 m4
     subst m2;subst m3;subst m4
     rfl
    rw [hs']
    refine ke hQ ((vAy hf).symm) (St.of_keeps hb _ _ (fun b o e=>m1 b o (fun q=>?_) (vBB _ e)) (vAz hb.2 m5)) (.int _ _)
    have:=vBb e
    rw [vBH.mp q] at this;exact Nat.lt_irrefl _ this
noncomputable def qHQ:List D -> Option (List Bool)
 | []=>some []
 | .bool i :: r=>(qHQ r).map (i :: ·)
 | _=>none
theorem qDM (ns:List Bool):qHQ (ns.map .bool) = some ns:=by
 induction ns with
 | nil=>rfl
 | cons t ts ih=>show (qHQ _).map _ = _;rw [ih];rfl
theorem jNC {ns:List Bool} (r:Rps X h vs ds fp) (e:qHQ ds = some ns):vs = ns.map .bool :=
 r.ind (Ps:=fun vs ds _=>∀ ns,qHQ ds = some ns -> vs = ns.map .bool) (fun ns e=>by obtain rfl:=vAy e;rfl)
  (fun {_ _ d _ _ _} r _ ih ns e=>by
   cases d with
   | bool i =>
    obtain ⟨ns',e1,rfl⟩:=vBD.mp e
    obtain ⟨rfl,rfl⟩:=r.inv
    rw [ih ns' e1];rfl
   | _=>exact nos e) ns e
def qNK (ds:List D):Tj:=qFR ds fun d=>ofL d fun xs=>(qHQ xs).bind fun ns=>okB (ns.all id)
theorem jXB (ns:List Bool):(List.range ns.length).all (fun i=>ns.getD i false) = ns.all id:=by
 rw [vCk,vBt,vBt]
 constructor
 ·intro h x hx
  obtain ⟨i,hi,rfl⟩:=List.mem_iff_getElem.mp hx
  have:=h i (vBV.mpr hi)
  rw [vBJ,vBP hi] at this;exact this
 ·intro h i hi
  rw [vBJ,vBP (vBV.mp hi)]
  exact h _ (List.getElem_mem (vBV.mp hi))
theorem qJH:OpN c hm n (fun vs=>call (.builtin "all") vs) qNK:=by
 intro A l L m s vs ds fp r Q E hR hn nb hb rs hf hQ hE
 ··refine nn fun gN=>?_
   obtain ⟨d,rfl,hf⟩:=j0 hf
   obtain ⟨es,rfl,hf⟩:=Zh hf
   obtain ⟨ns,hns,hf⟩:=vBG.mp hf
   obtain ⟨va,rfl,ra⟩:=rs.inv1
   obtain ⟨x,vx,f,hx,rx⟩:=QR ra
   refine gN ?_
   refine wpAny_with_toks hb.2 (call_all_walk (vCT hx ?_))
   refine nn fun gN=>?_
   obtain ⟨fpw,W,hW,h0,hfp,_,hWI⟩:=qn (prog:=c.prog) (w:=c.w) (hm:=hm) (A:=A.in1) hR.hm.in1 hx
   refine gN ?_
   refine ⟨_,fpw,_,_,_,_,fun i=>ns.getD i false,rfl,hW,h0,fun i v s' Q' E' hv hq=>?_,fun h' tk hk ht=>?_⟩
   ·have e:vx.toList[i]? = some v:=by simpa using hv
    rw [(jNC rx hns),vBg] at e
    obtain ⟨p,e1,rfl⟩:=vBD.mp e
    have:ns.getD i false = p:=by rw [vBJ,e1];rfl
    dsimp only at hq
    rw [this] at hq
    exact wpAny_truthy_bool hq
   ·rw [(by rw [<- vCN,(jNC rx hns),vBF]:vx.size = ns.length),jXB]
    refine ke hQ ((vAy hf).symm) (St.of_keeps hb _ _ (fun b o e=>hk b o (fun q=>?_) (vBB _ e)) ht) (.bool _)
    have:=vBb e
    rw [vBH.mp q] at this;exact Nat.lt_irrefl _ this
noncomputable def ofB {β:Type} (d:D) (K:Bool -> Option β):Option β:=match d with
 | .bool i=>K i
 | _=>none
theorem qBV {β:Type} {K:Bool -> Option β} {r:β} (h:ofB d K = some r):∃ i,d = .bool i /\ K i = some r:=by cases d <;> first | exact nos h | exact ⟨_,rfl,h⟩
def jUP (ds:List D):Tj:=qFR ds fun d=>ofB d fun b=>okI (if b then 1 else 0)
theorem vC:OpN c hm n (fun vs=>call (.type "int") vs) jUP:=by
 intro A l L m s vs ds fp r Q E hR hn nb hb rs hf hQ hE
 ·refine nn fun gN=>?_
  obtain ⟨d,rfl,hf⟩:=j0 hf
  obtain ⟨b,rfl,hf⟩:=qBV hf
  obtain ⟨va,rfl,ra⟩:=rs.inv1
  obtain ⟨rfl,rfl⟩:=ra.inv
  refine gN ?_
  exact call_int_bool (ke hQ ((vAy hf).symm) (St.tok hb 1) (.int _ _))
def jAT (ds:List D):Tj:=qFR ds fun d=>ofL d fun ds=>if ds.length <= lim then some (.ok (.list ds,vg ds)) else none
theorem jDH:OpN c hm n (fun vs=>call (.type "list") vs) jAT:=by
 intro A l L m s vs ds fp r Q E hR hn nb hb rs hf hQ hE
 ··refine nn fun gN=>?_
   obtain ⟨d,rfl,hf⟩:=j0 hf
   obtain ⟨es,rfl,hf⟩:=Zh hf
   obtain ⟨hlen,hf⟩:=ifs hf
   obtain ⟨va,rfl,ra⟩:=rs.inv1
   obtain ⟨x,vx,f,⟨o,ho,hc,k,hd⟩,rx⟩:=QR ra
   have hsz:vx.size = es.length:=by simpa using rx.length
   refine gN ?_
   clear gN
   refine call_list_seq x (.inl rfl) ho hc hd (fun h' c' hk hD=>?_) (hsz:=by rw [hsz];unfold lim at hlen;unfold sizeLine;exact vAz hlen (by decide))
   refine hQ _ _ _ _ _ ((vAy hf).symm) (St.of_keeps hb h' s.toks hk hb.2:St c L s { s with heap:=h' }) (.list hD rfl rfl (rx.keep fun b o e _=>hk b o e)) ?_ (jSN rx (Jq _) (Jq _) ⟨_,_,_,hD,rfl,rfl⟩)
   intro q hq
   rcases vCu.mp hq with hqq | hq
   ·rw [hqq];exact .inl (Jq _)
   ·exact .inr (.inl (vBC _ hq))
noncomputable def qEJ (ns:List Int):Int:=ns.foldl max (ns.headD 0)
noncomputable def jYA (ns:List Int):Int:=ns.foldl min (ns.headD 0)
theorem jGX (bt:Nat -> Nat -> Bool):∀ k,argBest bt k <= k:=by
 intro k
 induction k with
 | zero =>
  exact vBI _
 | succ k ih =>
  rw [argBest]
  split
  ·exact vBI _
  ·exact Nat.le_succ_of_le (ih)
theorem jQL (f:Nat -> Int):∀ k,f (argBest (fun i j=>decide (f i > f j)) k) = ((List.range (k + 1)).map f).foldl max (f 0):=by
 intro k
 induction k with
 | zero =>
  simp [argBest,vCQ]
 | succ k ih =>
  rw [vCQ,vBv,List.foldl_append,<- ih,argBest]
  simp only [List.map_cons,List.map_nil,List.foldl_cons,List.foldl_nil,vBZ]
  split
  ·rename_i h;exact (Int.max_eq_right (Int.le_of_lt h)).symm
  ·rename_i h;exact (Int.max_eq_left (Int.not_lt.mp h)).symm
theorem jQK (f:Nat -> Int):∀ k,f (argBest (fun i j=>decide (f i < f j)) k) = ((List.range (k + 1)).map f).foldl min (f 0):=by
 intro k
 induction k with
 | zero =>
  simp [argBest,vCQ]
 | succ k ih =>
  rw [vCQ,vBv,List.foldl_append,<- ih,argBest]
  simp only [List.map_cons,List.map_nil,List.foldl_cons,List.foldl_nil,vBZ]
  split
  ·rename_i h;exact (Int.min_eq_right (Int.le_of_lt h)).symm
  ·rename_i h;exact (Int.min_eq_left (Int.not_lt.mp h)).symm
theorem jLH (xs:List (Int × Tok)):(List.range xs.length).map (numAt xs.toArray) = xs.map (·.1):=by
 apply List.ext_getElem
 ·simp
 ·intro i h1 h2
  simp at h1 h2
  simp [numAt,h1]
def qJN (ds:List D):Tj:=match ds with
 | [a]=>ofL a fun ds=>(qf ds).bind fun ns=>if ns ≠ [] then okI (qEJ ns) else none
 | [a,b]=>ofI a fun a=>ofI b fun b=>okI (max a b)
 | _=>none
def qME (ds:List D):Tj:=qFR ds fun d=>ofL d fun ds=>(qf ds).bind fun ns=>if ns ≠ [] then okI (jYA ns) else none
theorem qEF:OpN c false n (fun vs=>call (.builtin "max") vs) qJN:=by
 intro A l L m s vs ds fp r Q E hR hn nb hb rs hf hQ hE
 obtain _ | ⟨a,_ | ⟨b,_ | ⟨x,t⟩⟩⟩:=ds
 ·exact nos hf
 ·obtain ⟨es,rfl,h2⟩:=Zh hf
  clear hf
  obtain ⟨va,rfl,ra⟩:=rs.inv1
  obtain ⟨ns,hns,hf⟩:=vBG.mp h2
  ··refine nn fun gN=>?_
    obtain ⟨hne,hf⟩:=ifs hf
    obtain ⟨x,vx,f,hx,rx⟩:=QR ra
    obtain ⟨xs,h1,h2⟩:=xt rx hns
    have hx':s.heap.IsList x (intItems xs.toArray):=by
     have:intItems xs.toArray = vx:=by
      apply Array.ext'
      rw [h1];simp [intItems]
     rw [this];exact hx
    have hpos:0 < xs.length:=by
     rw [<- vBF (f:=(·.1)),h2]
     exact vBn.mpr hne
    refine gN ?_
    clear gN
    refine wpAny_with_toks hb.2 (max_intList hR.hm hx' (by simpa using hpos) fun v h' tk hv hk ht=>?_)
    have hle:=jGX (fun i j=>decide (numAt xs.toArray i > numAt xs.toArray j)) (xs.toArray.size - 1)
    have hfold:=jQL (numAt xs.toArray) (xs.toArray.size - 1)
    rw [(by simp;exact Nat.sub_add_cancel hpos:xs.toArray.size - 1 + 1 = xs.length),jLH,h2] at hfold
    generalize argBest (fun i j=>decide (numAt xs.toArray i > numAt xs.toArray j)) (xs.toArray.size - 1) = j at hv hle hfold
    have hj:j < xs.length:=by simp at hle;exact Nat.add_le_of_le_sub hpos hle
    have hval:v = .int xs[j].1 xs[j].2:=by
     simp [intItems,hj] at hv
     exact hv.symm
    have h0:numAt xs.toArray 0 = ns.headD 0:=by
     cases xs with
     | nil=>cases hpos
     | cons p xs=>rw [<- h2];rfl
    have hnum:numAt xs.toArray j = xs[j].1:=by simp [numAt,hj]
    rw [h0,hnum] at hfold
    subst hval
    have:xs[j].1 = qEJ ns:=hfold
    rw [this]
    exact ke hQ ((vAy hf).symm) (St.of_keeps hb _ _ hk ht) (.int _ _)
 ·refine nn fun gN=>?_
  obtain ⟨a,rfl,h2⟩:=Qe hf
  obtain ⟨b,rfl,hf⟩:=Qe h2
  obtain ⟨va,vb,fa,fb,ra,rb⟩:=rs.inv2
  obtain ⟨t0,rfl,rfl⟩:=ra.inv;obtain ⟨u0,rfl,rfl⟩:=rb.inv;have hrr:=(vAy hf).symm
  refine gN ?_
  clear gN
  refine wpAny_with_toks hb.2 (max_two_ints hR.hm fun h' tk hk ht=>?_)
  split
  ·rename_i h
   have:max a b = b:=Int.max_eq_right (Int.le_of_lt h)
   rw [this] at hrr
   exact ke hQ hrr (St.of_keeps hb _ _ hk ht) (.int _ _)
  ·rename_i h
   have:max a b = a:=Int.max_eq_left (Int.not_lt.mp h)
   rw [this] at hrr
   exact ke hQ hrr (St.of_keeps hb _ _ hk ht) (.int _ _)
 ·exact nos hf
theorem qJE:OpN c false n (fun vs=>call (.builtin "min") vs) qME:=by
 intro A l L m s vs ds fp r Q E hR hn nb hb rs hf hQ hE
 ···refine nn fun gN=>?_
    obtain ⟨d,rfl,hf⟩:=j0 hf
    obtain ⟨es,rfl,hf⟩:=Zh hf
    obtain ⟨ns,hns,hf⟩:=vBG.mp hf
    obtain ⟨hne,hf⟩:=ifs hf
    obtain ⟨va,rfl,ra⟩:=rs.inv1
    obtain ⟨x,vx,f,hx,rx⟩:=QR ra
    obtain ⟨xs,h1,h2⟩:=xt rx hns
    have hx':s.heap.IsList x (intItems xs.toArray):=by
     have:intItems xs.toArray = vx:=by
      apply Array.ext'
      rw [h1];simp [intItems]
     rw [this];exact hx
    have hpos:0 < xs.length:=by
     rw [<- vBF (f:=(·.1)),h2]
     exact vBn.mpr hne
    refine gN ?_
    clear gN
    refine wpAny_with_toks hb.2 (min_intList hR.hm hx' (by simpa using hpos) fun v h' tk hv hk ht=>?_)
    have hle:=jGX (fun i j=>decide (numAt xs.toArray i < numAt xs.toArray j)) (xs.toArray.size - 1)
    have hfold:=jQK (numAt xs.toArray) (xs.toArray.size - 1)
    rw [(by simp;exact Nat.sub_add_cancel hpos:xs.toArray.size - 1 + 1 = xs.length),jLH,h2] at hfold
    generalize argBest (fun i j=>decide (numAt xs.toArray i < numAt xs.toArray j)) (xs.toArray.size - 1) = j at hv hle hfold
    have hj:j < xs.length:=by simp at hle;exact Nat.add_le_of_le_sub hpos hle
    have hval:v = .int xs[j].1 xs[j].2:=by
     simp [intItems,hj] at hv
     exact hv.symm
    have h0:numAt xs.toArray 0 = ns.headD 0:=by
     cases xs with
     | nil=>cases hpos
     | cons p xs=>rw [<- h2];rfl
    have hnum:numAt xs.toArray j = xs[j].1:=by simp [numAt,hj]
    rw [h0,hnum] at hfold
    subst hval
    have:xs[j].1 = jYA ns:=hfold
    rw [this]
    exact ke hQ ((vAy hf).symm) (St.of_keeps hb _ _ hk ht) (.int _ _)
end
theorem qLM {p:Program} {s:Shared} {w:World} (T:Top p loose mean mg mb s.heap) (hK:K.In s.heap) (hc:jZG p K = true) (hv:zC p loose "ValueError" = true) :
  Xs (Yg prog w s mg mb):=by
 refine ⟨⟨K,hK,fun k hk=>?_⟩,jV T hv (by kernel_rfl)⟩
 have h1:=vBt.mp hc k hk
 split at h1
 ·refine nn fun gN=>?_
  rename_i C hC
  simp only [vBR,vBc,vBt] at h1
  obtain ⟨⟨⟨h2,h3⟩,h4⟩,h5⟩:=h1
  have hb:=mg_of hK T.g hC
  obtain ⟨C2,O,_⟩:=T.ownAt h3
  obtain rfl:=(by have:=O.bound;rw [hb] at this;cases this;rfl:C2 = C).symm
  refine gN ?_
  clear gN
  refine ⟨C,hb,h2,O,h4,fun k' hk'=>?_⟩
  have h6:=h5 k' hk'
  split at h6
  ·rename_i C' hC'
   simp only [vBR,vBc,vCD,bne_iff_ne,ne_eq] at h6
   refine ⟨C',mg_of hK T.g hC',h6.1,fun q=>?_⟩
   rcases h6.2 with w | w
   ·exact absurd q w
   ·exact w
  ·cases h6
 ·cases h1
theorem jGN {n:Nat} (h:n <= 2000):n <= lim:=vAz h (by decide)
theorem Z9 {n:Nat} (h:n <= 2000):n <= big:=vAz h (by decide)
theorem jIT {n:Nat} (h:n <= 1000000):n <= lim:=vAz h (by decide)
theorem xr {n:Nat} (h:n <= 1000000):n <= big:=vAz h (by decide)
theorem qCC (a:Int) (n:Nat) [h:NeZero n]:jM [.int a,.int (no_index (OfNat.ofNat n))] = some (.ok (.int (a.fmod (OfNat.ofNat n)),2)):=by
 have:((OfNat.ofNat n:Int)) ≠ 0:=by
  intro e;exact h.out (by exact Int.ofNat.inj (e:((n:Nat):Int) = 0))
 exact zE _ _ this
theorem jSZ (a:Int) (n:Nat) [h:NeZero n] (h2:n < 1073741824):zi [.int a,.int (no_index (OfNat.ofNat n))] = some (.ok (.int (a.fdiv (OfNat.ofNat n)),2)):=by
 have:((OfNat.ofNat n:Int)) ≠ 0:=by
  intro e;exact h.out (by exact Int.ofNat.inj (e:((n:Nat):Int) = 0))
 exact qCX _ _ this (by exact h2)
theorem qBX (a:Int):jLI [.int a] = some (.ok (.int (-a),2)):=rfl
theorem jXX (a:Bool):qFT [.bool a] = some (.ok (.bool (!a),2)):=rfl
theorem jVD (a:Int) (lv:Nat):Xx (.int a,lv) = some (.ok (some a)):=rfl
theorem jYQ (b:Bool):jUP [.bool b] = some (.ok (.int (if b then 1 else 0),2)):=rfl
theorem qCE (a b:Int):qJN [.int a,.int b] = some (.ok (.int (max a b),2)):=rfl
theorem jVG (ns:List Bool):qNK [.list (ns.map .bool)] = some (.ok (.bool (ns.all id),2)):=by show ((qHQ _).bind _) = _;rw [qDM];rfl
theorem jDO (xs:List D) (h:xs.length <= lim):jAT [.list xs] = some (.ok (.list xs,vg xs)):=if_pos h
theorem jYD (F:Td) (x:List Nat) (ds:List D):jUC F (.str x) (some (.ok ds)) = F (.str x :: ds):=rfl
theorem jGP (sep:List Nat) (ts:Tc) (h:jAG sep ts <= lim):jPE [.str sep,.list (ts.map .str)] = some (.ok (.str (qk sep ts),2)):=by
 show ((jAJ _).bind _) = _
 rw [jGC,Option.bind_some,if_pos h]
theorem jLS (a:Int):isF [.int a,.none] = some (.ok (.bool false,2)):=rfl
theorem jIX:isF [.none,.none] = some (.ok (.bool true,2)):=rfl
theorem jIY (xs:List D):isF [.list xs,.none] = some (.ok (.bool false,2)):=rfl
theorem jSA (a b:Nat) (h:a <= b) (hb:b <= lim):jEU [.int (a:Int),.int (b:Int)] = some (.ok ((List.range (b - a)).map fun (i:Nat)=>.int ((a + i:Nat):Int))):=by
 have h2:(b:Int) <= 1000000000:=Int.ofNat_le.mpr (vAz hb (by decide))
 have h3:((b:Int) - a).toNat = b - a:=Int.toNat_sub b a
 have hl:b - a <= lim:=by exact vAz (Nat.sub_le ..) hb
 show qEA _ _ = _
 unfold qEA
 rw [if_pos ⟨Int.le_trans (by decide) (vBi _),Int.le_trans (Int.ofNat_le.mpr h) h2,h2,by exact vBi _,by rw [h3];exact hl⟩,h3]
 simp
theorem QE {α:Type} (src:α -> D) (l:List α) (i:Nat) (a:α) (h:l[i]? = some a) (hb:l.length <= big):JL [.list (l.map src),.int (i:Int)] = some (.ok (src a,0)) :=
 jGQ (by rw [vBg,h];rfl) (by rw [vBF];exact hb)
theorem zs (xs:List D) (d:D) (h:xs.getLast? = some d) (hb:xs.length <= big):JL [.list xs,.int (-1)] = some (.ok (d,0)):=by
 have hne:xs ≠ []:=fun e=>by subst e;cases h
 have e:jSQ xs.length (-1) = some (xs.length - 1):=by
  unfold jSQ
  rw [if_pos hb,if_neg (by decide),if_pos (show -(xs.length:Int) <= -1 from Int.neg_le_neg (Int.ofNat_le.mpr (vBn.mpr hne:0 < xs.length))),Int.add_comm]
  exact congrArg some (Int.toNat_sub xs.length 1)
 have e2:xs[xs.length - 1]? = some d:=by rw [<- h,vCM]
 show ((jSQ _ _).bind _) = _
 rw [e,Option.bind_some,e2];rfl
theorem jUN (a b:D):JL [.tup [a,b],.int 0] = some (.ok (a,0)):=rfl
theorem jUM (a b:D):JL [.tup [a,b],.int 1] = some (.ok (b,0)):=rfl
theorem JU {α:Type} (src:α -> D) (l:List α) (h:l.length <= big):YA [.list (l.map src)] = some (.ok (.int l.length,2)):=by
 rw [zG _ (by rw [vBF];exact h),vBF]
theorem zt {α:Type} (src:α -> D) (l:List α) (lv:Nat) (h:l.length <= lim):itF (.list (l.map src),lv) = some (.ok (l.map src)):=jIV _ _ (by rw [vBF];exact h)
theorem jA {xs:List D} (h:fI Z = some (.ok xs)):jLT occ ix fI fB Z = Ym fB ix xs (JX occ Z):=by rw [jLT,h];rfl
theorem jZW {α:Type} (src:α -> D) (g:α -> D):∀ (l:List α),(∀ a ∈ l,fC (YL cap Z (src a)) = some (.ok true) /\ ∃ lv,fE (YL cap Z (src a)) = some (.ok (g a,lv))) -> 
  zR fE fC cap Z (l.map src) = some (l.map g):=by
 intro l
 induction l with
 | nil =>
  intro _
  exact rfl
 | cons x xs ih =>
  intro h
  obtain ⟨h1,lv,h2⟩:=h x (vBA ..)
  rw [List.map_cons,jJY,h1,h2,ih fun y hy=>h y (vBC _ hy)];rfl
theorem Yh {α:Type} (src:α -> D) (g:α -> D) (l:List α) (h:∀ a ∈ l,∃ lv,fE (YL cap Z (src a)) = some (.ok (g a,lv))) :
  jN fE (fun _=>some (.ok true)) cap Z (l.map src) = some (.ok (.list (l.map g),vg (l.map g))):=jJX (jZW src g l fun a ha=>⟨rfl,h a ha⟩)
theorem jUE {α Wz:Type} (src:α -> D) (st:Wz -> Option (D × Nat) -> G) (step:Wz -> α -> Wz) (hst:∀ s v w,(st s v).set ix w = st s w):∀ (l:List α) (s:Wz) (v:Option (D × Nat)),(∀ l1z a l2z,l = l1z ++ a :: l2z -> ∃ w,fB (st (l1z.foldl step s) (some (src a,JZ (src a)))) = some (.next (st (step (l1z.foldl step s) a) w))) -> 
  ∃ w,Ym fB ix (l.map src) (st s v) = some (.next (st (l.foldl step s) w)):=by
 intro l
 induction l with
 | nil =>
  intro s v _
  exact ⟨v,rfl⟩
 | cons a l ih =>
  intro s v h
  obtain ⟨w1,e1⟩:=h [] a l rfl
  obtain ⟨w,e⟩:=ih (step s a) w1 fun l1z b l2z el=>by
   obtain ⟨w,e⟩:=h (a :: l1z) b l2z (by rw [el];rfl)
   exact ⟨w,e⟩
  exact ⟨w,by rw [List.map_cons];exact (Zn (by rw [hst];exact e1)).trans e⟩
theorem vl {α:Type} (src:α -> D) (st:Option (D × Nat) -> G) (p:α -> Bool) (g:α -> D × Nat) (hst:∀ v w,(st v).set ix w = st w):∀ (l:List α) (v:Option (D × Nat)),(∀ a ∈ l,(p a = true -> fB (st (some (src a,JZ (src a)))) = some (.ret (g a).1 (g a).2)) /\ (p a = false -> ∃ w,fB (st (some (src a,JZ (src a)))) = some (.next (st w)))) -> 
  (l.find? p = none /\ ∃ w,Ym fB ix (l.map src) (st v) = some (.next (st w))) \/ ∃ a,l.find? p = some a /\ Ym fB ix (l.map src) (st v) = some (.ret (g a).1 (g a).2):=by
 intro l
 induction l with
 | nil =>
  intro v _
  exact .inl ⟨rfl,v,rfl⟩
 | cons a l ih =>
  intro v h
  obtain ⟨h1,h2⟩:=h a (vBA ..)
  cases hp:p a with
  | true=>exact .inr ⟨a,by rw [List.find?_cons,hp],by rw [List.map_cons];exact jYG (by rw [hst];exact h1 hp)⟩
  | false =>
   obtain ⟨w1,e1⟩:=h2 hp
   rcases ih w1 fun b hb=>h b (vBC _ hb) with ⟨h3,w,e⟩ | ⟨b,h3,e⟩
   ·exact .inl ⟨by rw [List.find?_cons,hp];exact h3,w,(by rw [List.map_cons];exact Zn (by rw [hst];exact e1):Ym fB ix ((a :: l).map src) (st v) = Ym fB ix (l.map src) (st w1)).trans e⟩
   ·exact .inr ⟨b,by rw [List.find?_cons,hp];exact h3,(by rw [List.map_cons];exact Zn (by rw [hst];exact e1):Ym fB ix ((a :: l).map src) (st v) = Ym fB ix (l.map src) (st w1)).trans e⟩
theorem qCU (a b:List Int):eqF [.list (a.map .int),.list (b.map .int)] = some (.ok (.bool (decide (a = b)),2)):=jZK _ (fun _ _=>vBc) (fun _ _=>rfl) (fun _=>rfl) a b
theorem qBY (a b:List Int):neF [.list (a.map .int),.list (b.map .int)] = some (.ok (.bool (!decide (a = b)),2)):=qFX _ (fun _ _=>vBc) (fun _ _=>rfl) (fun _=>rfl) a b
theorem qAT {α:Type} (src:α -> D) (a b:List α) (h:a.length + b.length <= lim):YC [.list (a.map src),.list (b.map src)] = some (.ok (.list ((a ++ b).map src),vg ((a ++ b).map src))):=by
 rw [zh _ _ (by simpa using h),<- vBv]
theorem jGF {α:Type} (src:α -> D) (l:List α) (lo hi:Option Int) (h:l.length <= lim):jAK lo hi (.list (l.map src)) = some (.ok (.list ((Jf l lo hi).map src),vg ((Jf l lo hi).map src))):=by
 rw [jCW _ _ _ (by rw [vBF];exact h),(by simp [Jf]:Jf (l.map src) lo hi = (Jf l lo hi).map src)]
theorem jLR (sep:List Nat):∀ ts:Tc,(qk sep ts).length = (ts.map List.length).sum + (ts.length - 1) * sep.length:=by
 intro ts
 induction ts with
 | nil=>simp [qk]
 | cons x l ih =>
  cases l with
  | nil=>simp [qk]
  | cons y r =>
  rw [qk,vBO,vBO,ih]
  simp only [List.map_cons,List.sum_cons,List.length_cons,Nat.add_sub_cancel]
  rw [Nat.add_mul];exact vCI (lN [_,_,_,_,_] (.a (.a (.v 0) (.v 1)) (.a (.a (.v 2) (.v 3)) (.v 4))) (.a (.a (.v 0) (.a (.v 2) (.v 3))) (.a (.v 4) (.m 1 (.v 1)))) [] rT) (lN [_,_,_,_,_] (.a (.a (.v 0) (.a (.v 1) (.v 2))) (.a (.v 3) (.m 1 (.v 4)))) (.a (.a (.v 0) (.v 4)) (.a (.a (.v 1) (.v 2)) (.v 3))) [] rT)
theorem qDW  (ws:Tc) (h:∀ w ∈ ws,w.length <= k):(ws.map List.length).sum <= k * ws.length:=by
 induction ws with
 | nil=>simp
 | cons w ws ih =>
  rw [List.map_cons,List.sum_cons,Nat.add_comm];exact vCp (ih fun v hv=>h v (vBC _ hv)) (h w (vBA ..))
theorem zf {xs:List D} (h1:Z[i]? = some (some (.list xs,lv))) (h2:1 <= lv) (h3:xs.length <= lim) (h4:f Z = some (.ok (d,lv'))) (h5:d.flat = true) :
  qHO occ i f Z = some (.next (Z.set i (some (.list (xs ++ [d]),lv)))):=by
 unfold qHO
 rw [qAO h1,if_pos ⟨h2,h3⟩,h4,vz]
 unfold qNJ
 rw [if_pos (by rw [h5];rfl)]
theorem Zm {α:Type} (l:List α) (lo hi:Option Int):(Jf l lo hi).length <= l.length:=by
 unfold Jf
 rw [List.length_take,vCF];exact vAz (Nat.min_le_right ..) (Nat.sub_le ..)
theorem jGE {α:Type} {l:List α} {a:α} (h:a ∈ Jf l lo hi):a ∈ l:=List.mem_of_mem_drop (List.mem_of_mem_take h)
theorem jWA {sep:List Nat} {n m:Nat} (ts:Tc) (h:∀ w ∈ ts,w.length <= k) (hn:ts.length <= n) (hs:sep.length <= m):jAG sep ts <= k * n + n * m:=by
 unfold jAG;exact vCp (vAz (qDW ts h) (Nat.mul_le_mul_left _ hn:k * ts.length <= k * n)) (Nat.mul_le_mul hn hs:ts.length * sep.length <= n * m)
theorem ZI:J3 [] = some (.ok (.list [],2)):=rfl
theorem jLN (a:Int):J3 [.int a] = some (.ok (.list [.int a],2)):=rfl
theorem jCS (a b:Int):yW [.int a,.int b] = some (.ok (.tup [.int a,.int b],2)):=rfl
theorem qAU (a b:List Int) (h:a.length + b.length <= lim):YC [.list (a.map .int),.list (b.map .int)] = some (.ok (.list ((a ++ b).map .int),2)):=by
 rw [qAT _ _ _ h,kc]
theorem jGY (a:List Int) (x:Int) (h:a.length + 1 <= lim):YC [.list (a.map .int),.list [.int x]] = some (.ok (.list ((a ++ [x]).map .int),2)):=qAU a [x] h
theorem xi (l:List Int) (lo hi:Option Int) (h:l.length <= lim):jAK lo hi (.list (l.map .int)) = some (.ok (.list ((Jf l lo hi).map .int),2)):=by
 rw [jGF _ _ _ _ h,kc]
theorem Yp (l:Tc) (lo hi:Option Int) (h:l.length <= lim):jAK lo hi (.list (l.map .str)) = some (.ok (.list ((Jf l lo hi).map .str),2)):=by
 rw [jGF _ _ _ _ h,zF]
theorem jY (a:Tc):eqF [.list (a.map .str),.list []] = some (.ok (.bool (decide (a = [])),2)):=qCT a []
theorem jZ (a:List Int):eqF [.list (a.map .int),.list []] = some (.ok (.bool (decide (a = [])),2)):=qCU a []
theorem getD_some {α:Type} {l:List α} (d:α) (h:i < l.length):l[i]? = some (l.getD i d):=by simp [vBP h]
theorem getElem?_getD_some {α:Type} {l:List α} (d:α) (h:l ≠ []):l.getLast? = some (l.getLast?.getD d):=by
 rw [List.getLast?_eq_some_getLast h];rfl
theorem jUJ:∀ (l:List Nat),qk [] (l.map fun k=>[k]) = l:=by
 intro l
 induction l with
 | nil=>rfl
 | cons x l ih =>
  cases l with
  | nil=>rfl
  | cons y r =>
  have:=ih
  rw [List.map_cons,List.map_cons,qk]
  rw [List.map_cons] at this
  rw [this];simp
theorem jTO (l:List Nat):jAG [] (l.map fun k=>[k]) = l.length:=by
 have:∀ l:List Nat,(l.map fun _=>1).sum = l.length:=fun l=>by
  induction l with
  | nil=>rfl
  | cons x l ih=>rw [List.map_cons,List.sum_cons,ih,List.length_cons];exact Nat.add_comm ..
 simp [jAG,Function.comp_def,this]
theorem jUA (a b:Int) (h:a.natAbs < 18446744073709551616):jFE a b = true:=by
 unfold jFE
 rw [vBk (h:a.natAbs < 2 ^ 64)];rfl
theorem jDK (a b:Int) (h:b.natAbs < 18446744073709551616):jFE a b = true:=by
 unfold jFE
 rw [vBk (h:b.natAbs < 2 ^ 64),Bool.or_true];rfl
theorem jCD (s:List Nat) (k:Nat) (h:s.length * k <= lim) (hk:k < 1000000000):jBG [.str s,.int (k:Int)] = some (.ok (.str (jTY s (k:Int)),2)):=by
 rw [qJM,if_pos ⟨by rw [(by decide:(2:Int) ^ 60 = 1152921504606846976)];exact lZ [(k:Int)] (.a (.v 0) (.n 1)) (.n 1152921504606846976) [(.a (.v 0) (.n 1),.n 1000000000)] rT (zT hk),by rw [(by decide:(2:Int) ^ 60 = 1152921504606846976)];exact vBi _,by simpa using h⟩]
theorem qBH (ch:Nat) (k:Nat):jTY [ch] (k:Int) = List.replicate k ch:=by
 have:∀ k:Nat,(List.replicate k [ch]).flatten = List.replicate k ch:=fun k=>by
  induction k with
  | zero=>rfl
  | succ k ih=>rw [List.replicate_succ,List.flatten_cons,ih,List.replicate_succ];rfl
 simp [jTY]
noncomputable def zr (ws:Tc):Nat:=ws.foldl (fun m w=>max m w.length) 0
noncomputable def sz (ws:Tc) (b e:Nat):Nat:=(((ws.drop b).take (e - b)).map List.length).sum + (e - b - 1)
noncomputable def jGM (ws:Tc) (w:Int):Option Nat:=(List.range ws.length).find? fun i=>decide (w < ((ws.getD i []).length:Int))
noncomputable def qMC:Option Nat -> D
 | none=>.none
 | some k=>.int (k:Int)
noncomputable def jAZ (ss:List Int):Option Nat:=(List.range (ss.length - 1)).find? fun i=>decide (ss.getD (1 + i) 0 <= ss.getD i 0)
def zv (ss:List Int) (n:Nat):Bool:=if ss = [] then n == 0 else (ss.getD 0 0 == 0) && decide (ss.getLast?.getD 0 < (n:Int)) && (jAZ ss).isNone
theorem jPW (h:jAZ ss = none):∀ i,i + 1 < ss.length -> ss.getD i 0 < ss.getD (i + 1) 0:=by
 intro i hi
 have:=List.find?_eq_none.mp h i (vBV.mpr (Nat.le_sub_one_of_lt hi))
 rw [Nat.add_comm 1 i] at this
 simpa using this
theorem qLA (h:jAZ ss = none):∀ i,i < ss.length -> ss.getD 0 0 <= ss.getD i 0:=by
 intro i
 induction i with
 | zero =>
  intro _
  exact Int.le_refl _
 | succ i ih =>
  intro hi
  exact Int.le_trans (ih (vBd hi)) (Int.le_of_lt (jPW h i hi))
theorem jUQ (h:ss ≠ []):zv ss 0 = false:=by
 unfold zv
 rw [if_neg h]
 cases hd:jAZ ss with
 | some i=>simp
 | none =>
  rw [(by rw [vCM];rfl:ss.getLast?.getD 0 = ss.getD (ss.length - 1) 0)]
  cases h3:(ss.getD 0 0 == 0)
  ·simp
  ·rw [decide_eq_false (by exact Int.not_lt.mpr (Int.le_trans (Int.le_trans (by decide) (Int.le_of_eq (by simpa using h3:ss.getD 0 0 = 0).symm)) (qLA hd (ss.length - 1) (Nat.sub_one_lt_of_lt (vBn.mpr h:0 < ss.length)))):¬ (ss.getD (ss.length - 1) 0 < ((0:Nat):Int)))];rfl
def ql (ss:List Int) (n:Nat):List Int:=Jf ss (some 1) none ++ [(n:Int)]
theorem zN {n:Nat}:(ql ss n).length = (ss.length - 1) + 1:=by
 unfold ql
 rw [vBO,show Jf ss (some 1) none = ss.drop 1 from (jOK ss 1:Jf ss (some ((1:Nat):Int)) none = ss.drop 1),vCF];rfl
def kd (ws:Tc) (ss:List Int):Tc:=(List.range ss.length).map fun k=>qk [32] (Jf ws (some (ss.getD k 0)) (some ((ql ss ws.length).getD k 0)))
theorem jCV (lo hi:Option Int) (hl:ws.length <= 2000) (hw:∀ w ∈ ws,w.length <= 1000):jAG [32] (Jf ws lo hi) <= lim:=by
 unfold lim;exact vAz (jWA (sep:=[32]) (k:=1000) (n:=2000) (m:=1) (Jf ws lo hi) (fun w h=>hw w (jGE h)) (vAz (Zm ws lo hi) hl) (by simp)) (by decide)
def szI (ws:Tc) (b e:Int):Nat:=(qk [32] (Jf ws (some b) (some e))).length
theorem qIN (b e:Int) (hl:ws.length <= 2000) (hw:∀ w ∈ ws,w.length <= 1000):szI ws b e <= 2002000:=by
 have h1:=qDW (k:=1000) (Jf ws (some b) (some e)) fun w h=>hw w (jGE h)
 unfold szI
 rw [jLR]
 simp only [List.length_cons,List.length_nil]
 generalize ((Jf ws (some b) (some e)).map List.length).sum = x at h1 ⊢
 exact vCp (vAz h1 (Nat.mul_le_mul_left 1000 (vAz (Zm ws (some b) (some e)) hl))) (vAz (vBs (Nat.mul_one _)) (vAz (Nat.sub_le ..) (vAz (Zm ws (some b) (some e)) hl)))
theorem qFE {b e:Nat} (hbe:b <= e) (he:e <= ws.length):szI ws (b:Int) (e:Int) = sz ws b e:=by
 unfold szI
 rw [jTT,jLR,(by rw [List.length_take,vCF];exact Nat.min_eq_left (Nat.sub_le_sub_right he b):((ws.drop b).take (e - b)).length = e - b)];simp [sz]
theorem jXM (a:Int) (h:a.natAbs < 10000000000000000000000000000000000000000):jOU [.int a,.int 2] = some (.ok (.int (a * a),2)):=by
 rw [qEC]
 rw [if_pos ⟨by decide,by decide,vCP h (vAz (by decide:(10000000000000000000000000000000000000000:Nat) <= 2 ^ 200) (Nat.pow_le_pow_right (by decide) (by decide):(2:Nat) ^ 200 <= 2 ^ 1000))⟩,(by show a ^ 2 = a * a;rw [Int.pow_succ,Int.pow_succ,Int.pow_zero,Int.one_mul]:a ^ (2:Int).toNat = a * a)]
 rfl
noncomputable def pre (ws:Tc) (k:Nat):Nat:=((ws.take k).map List.length).sum
theorem jOT (ws:Tc) (b i:Nat):pre ws (b + i) = pre ws b + (((ws.drop b).take i).map List.length).sum:=by
 unfold pre;rw [List.take_add,vBv,List.sum_append_nat]
theorem jII (ws:Tc) {a b:Nat} (h:a <= b):pre ws a <= pre ws b:=by
 rw [show b = a + (b - a) by exact (Nat.add_sub_cancel' h).symm,jOT];exact vBW ..
theorem jWI (ws:Tc) {b e:Nat} (h:b <= e):sz ws b e = pre ws e - pre ws b + (e - b - 1):=by
 have:=jOT ws b (e - b)
 rw [Nat.add_sub_cancel' h] at this
 rw [this,Nat.add_sub_cancel_left];rfl
theorem jSG (ws:Tc) (h:k < ws.length):pre ws (k + 1) = pre ws k + (ws.getD k []).length:=by
 rw [jOT]
 have:(ws.drop k).take 1 = [ws.getD k []]:=by
  rw [List.drop_eq_getElem_cons h,List.take_succ_cons,List.take_zero,vBJ,vBP h];rfl
 rw [this];simp
theorem qFD (ws:Tc) {b b' e' e:Nat} (h1:b <= b') (h2:b' <= e') (h3:e' <= e):sz ws b' e' <= sz ws b e:=by
 rw [jWI ws h2,jWI ws (vAz h1 (vAz h2 h3))]
 exact vCp (vAz (Nat.sub_le_sub_left (jII ws h1) _) (Nat.sub_le_sub_right (jII ws h3) _)) (Nat.sub_le_sub_right (vAz (Nat.sub_le_sub_left h1 _) (Nat.sub_le_sub_right h3 _)) 1)
theorem qDV (ws:Tc) (h:k < ws.length):sz ws k (k + 1) = (ws.getD k []).length:=by
 rw [jWI ws (show k <= k + 1 from vCW k),jSG ws h,Nat.add_sub_cancel_left,Nat.add_sub_cancel_left];rfl
theorem qFC (ws:Tc) {b e:Nat} (h:b < e) (he:e < ws.length):sz ws b (e + 1) = sz ws b e + 1 + (ws.getD e []).length:=by
 have hb:=vBd h
 rw [jWI ws (show b <= e + 1 from Nat.le_succ_of_le hb),jWI ws hb,jSG ws he,Nat.sub_add_comm (jII ws hb),Nat.sub_add_comm hb,Nat.add_sub_cancel,Nat.add_assoc _ (e - b - 1) 1,Nat.sub_add_cancel (Nat.sub_pos_of_lt h)];exact Nat.add_right_comm ..
noncomputable def nx (fs:List Nat) (m k:Nat):Nat:=if k + 1 < fs.length then fs.getD (k + 1) 0 else m
def VS (ws:Tc) (w:Int) (fs:List Nat) (m:Nat):Prop :=
 fs.length <= m /\ ((m = 0 /\ fs = []) \/ (fs ≠ [] /\ fs.getD 0 0 = 0 /\ ∀ k,k < fs.length -> fs.getD k 0 < nx fs m k /\ nx fs m k <= m /\ (sz ws (fs.getD k 0) (nx fs m k):Int) <= w))
theorem jDQ (fs:List Nat) (a k:Nat) (h:k <= fs.length):(fs ++ [a]).getD k 0 = if k < fs.length then fs.getD k 0 else a:=by
 by_cases h2:k < fs.length
 ·rw [if_pos h2]
  simp only [vBJ]
  rw [List.getElem?_append_left h2]
 ·rw [if_neg h2,show k = fs.length by exact vCI h (vBy h2)];simp
theorem qFS (fs:List Nat) (a e k:Nat) (h:k <= fs.length):nx (fs ++ [a]) e k = if k < fs.length then nx fs a k else e:=by
 unfold nx
 rw [vBO]
 simp only [List.length_cons,List.length_nil]
 by_cases h2:k < fs.length
 ·rw [if_pos h2,if_pos (Nat.succ_lt_succ h2),jDQ _ _ _ (h2)]
 ·rw [if_neg h2,if_neg (Nat.not_lt.mpr (vBl (vBy h2)))]
theorem VS.snoc {a e:Nat} (h:VS ws w fs a) (h1:a < e) (h2:(sz ws a e:Int) <= w):VS ws w (fs ++ [a]) e:=by
 obtain ⟨hl,h⟩:=h
 refine ⟨by simp;exact lN [_,_,_] (.a (.v 0) (.n 1)) (.v 1) [(.a (.v 2) (.n 1),.v 1),(.v 0,.v 2)] rT h1 hl,.inr ⟨by simp,?_,?_⟩⟩
 ·rw [jDQ _ _ _ (vBz _)]
  rcases h with ⟨h3,h4⟩ | ⟨h3,h4,_⟩
  ·subst h4;simp [h3]
  ·rw [if_pos (vBn.mpr h3)];exact h4
 ·intro k hk
  rw [vBO] at hk
  simp only [List.length_cons,List.length_nil] at hk
  rw [jDQ _ _ _ (Nat.le_of_lt_succ hk),qFS _ _ _ _ (Nat.le_of_lt_succ hk)]
  by_cases h5:k < fs.length
  ·rw [if_pos h5,if_pos h5]
   rcases h with ⟨h3,h4⟩ | ⟨h3,h4,h6⟩
   ·subst h4;simp at h5
   ·exact ⟨(h6 k h5).1,by exact vBd (vBh (h6 k h5).2.1 h1),(h6 k h5).2.2⟩
  ·rw [if_neg h5,if_neg h5]
   exact ⟨h1,by exact vBI _,h2⟩
noncomputable def nz (fs:List Nat):List Int:=fs.map fun (k:Nat)=>(k:Int)
theorem jGI (fs:List Nat):(nz fs).length = fs.length:=vBF ..
theorem jIO (fs:List Nat) (k:Nat):(nz fs).getD k 0 = (fs.getD k 0:Nat):=by
 unfold nz
 simp only [vBJ,vBg]
 cases fs[k]? <;> rfl
theorem jXV (fs:List Nat) (a:Nat):(nz fs).map D.int ++ [.int (a:Int)] = (nz (fs ++ [a])).map .int:=by simp [nz]
theorem nz_nil:nz fs = [] ↔ fs = []:=by simp [nz]
theorem jGL (ws:Tc) (w:Int) (h0:0 <= w):((zr ws:Nat):Int) <= w ↔ ∀ x ∈ ws,(x.length:Int) <= w:=by
 have:∀ (l:Tc) (t:Nat),((l.foldl (fun m x=>max m x.length) t:Nat):Int) <= w ↔ (t:Int) <= w /\ ∀ x ∈ l,(x.length:Int) <= w:=by
  intro l
  induction l with
  | nil=>intro t;simp
  | cons y l ih =>
   intro t
   rw [List.foldl_cons,ih]
   simp only [vCu,forall_eq_or_imp]
   constructor
   ·rintro ⟨a,b⟩;exact ⟨Int.le_trans (zL (Nat.le_max_left ..)) a,Int.le_trans (zL (Nat.le_max_right ..)) a,b⟩
   ·rintro ⟨a,b,c⟩;refine ⟨?_,c⟩;rw [Nat.max_def];split <;> assumption
 unfold zr
 rw [this]
 exact ⟨fun a=>a.2,fun a=>⟨h0,a⟩⟩
theorem longAt_none:jGM ws w = none ↔ ∀ x ∈ ws,(x.length:Int) <= w:=by
 unfold jGM
 rw [List.find?_eq_none]
 constructor
 ·intro h x hx
  obtain ⟨i,hi,e⟩:=List.mem_iff_getElem.mp hx
  have:=h i (vBV.mpr hi)
  rw [vBJ,vBP hi,e] at this
  simpa using this
 ·intro h i hi
  simpa using (h _ (vBT (getD_some [] (vBV.mp hi))))
theorem jIW (a:Int):qJW [.int a,.none] = some (.ok (.bool true,2)):=rfl
theorem jFG:qJW [.none,.none] = some (.ok (.bool false,2)):=rfl
theorem jLM (src:Nat -> D) (st:Nat -> Option (D × Nat) -> G) (hst:∀ i v w,(st i v).set ix w = st i w):∀ (n s:Nat) (v:Option (D × Nat)),(∀ i,s <= i -> i < s + n -> ∃ w,fB (st i (some (src i,JZ (src i)))) = some (.next (st (i + 1) w))) -> 
  ∃ w,Ym fB ix ((List.range' s n).map src) (st s v) = some (.next (st (s + n) w)):=by
 intro n
 induction n with
 | zero =>
  intro s v _
  exact ⟨v,rfl⟩
 | succ n ih =>
  intro s v h
  obtain ⟨w1,e1⟩:=h s (vBI _) (lN [_,_] (.a (.v 0) (.n 1)) (.a (.v 0) (.a (.v 1) (.n 1))) [] rT)
  obtain ⟨w,e⟩:=ih (s + 1) w1 fun i h1 h2=>h i (vBd h1) (lN [_,_,_] (.a (.v 0) (.n 1)) (.a (.v 1) (.a (.v 2) (.n 1))) [(.a (.v 0) (.n 1),.a (.a (.v 1) (.n 1)) (.v 2))] rT h2)
  rw [show s + 1 + n = s + (n + 1) by exact Nat.add_right_comm ..] at e
  exact ⟨w,by rw [List.range'_succ,List.map_cons];exact (Zn (by rw [hst];exact e1)).trans e⟩
theorem jDN (src:Nat -> D) (st:Nat -> Option (D × Nat) -> G) (hst:∀ i v w,(st i v).set ix w = st i w) (n:Nat) (v:Option (D × Nat))
  (h:∀ i,i < n -> ∃ w,fB (st i (some (src i,JZ (src i)))) = some (.next (st (i + 1) w))) :
  ∃ w,Ym fB ix ((List.range n).map src) (st 0 v) = some (.next (st n w)):=by
 have:=jLM src st hst n 0 v fun i _ h2=>h i (lN [_,_] (.a (.v 0) (.n 1)) (.v 1) [(.a (.v 0) (.n 1),.a (.n 0) (.v 1))] rT h2)
 rw [Nat.zero_add,<- List.range_eq_range'] at this
 exact this
theorem jAS {w:World} {s:Shared} {l:Addr} {k:Int} {v:Value} (hl:s.heap.IsList l items) (hnd:Nd s.heap l)
  (h0:0 <= k) (hfit:k < 2 ^ 63) (hn:k < items.size)
  (hQ:∀ h',h'.IsList l (items.setIfInBounds k.toNat v) -> Nd h' l -> Heap.SameBut l s.heap h' -> Q () { s with heap:=h' }) :
  wpAny (model prog w) A (setItem (.ref l) (.int k t) v) Q E s:=by
 refine nn fun gN=>?_
 obtain ⟨o,ho,hc,ne,hd⟩:=id hl
 obtain ⟨o',vs,k',ho',hd0,hdn⟩:=hnd
 refine gN ?_
 rw [ho] at ho';obtain rfl:=vAy ho'
 unfold setItem
 try with_reducible refine wpAny_holding ?_
 first | refine vBE (vBM ?_) | skip
 refine vBE (wpAny_sequenceKey hl.typeIs (by decide) ?_)
 refine vBE (wpAny_callSpecial?_slot (name:=Str.ofString "__setitem__") hl.typeIs slot_list_setitem
  (wpAny_call_entry slot_list_setitem hl.typeIs entry_list_setitem ?_ (args_list_setitem _ _ _)))
 show wpAny _ _ (Builtin.List.listSubscript? (.int k t) >>= _) _ _ s
 refine vBE (wpAny_listSubscript_int (fitsIndex_of h0 hfit) ?_)
 refine nn fun gN=>?_
 obtain ⟨j,rfl⟩:=vBu h0
 have hj:j < items.size:=by exact vCb.mp hn
 refine gN ?_
 refine vBE (vBE (wpAny_seqItemAt ho hd (vBM ?_)))
 rw [(Array.getElem?_eq_getElem hj:items[j]? = some items[j])]
 obtain ⟨n',hd'⟩:=Obj.data_mapSeq hd (·.setIfInBounds j v)
 have hg:=vBf (h:=s.heap) (Obj.mapSeq (·.setIfInBounds j v)) ho (Obj.isFreed_of_seq hd')
 have hfin:(s.heap.update l (Obj.mapSeq (·.setIfInBounds j v))).IsList l (items.setIfInBounds j v) :=
  ⟨_,hg,(Obj.cls_mapSeq ..).trans hc,n',hd'⟩
 have hnd':Nd (s.heap.update l (Obj.mapSeq (·.setIfInBounds j v))) l:=by
  refine ⟨_,_,n',hg,hd',?_⟩
  obtain ⟨a,b,d,e⟩:=o
  subst hd;subst hdn
  rfl
 refine vBE (wpAny_setSeqItemAt ho hd ?_)
 first
  | exact vBE (vBM (vBM ⟨.none,rfl,vBM (hQ _ hfin hnd' (vBo ..))⟩))
  | exact vBM ⟨.none,rfl,vBM (hQ _ hfin hnd' (vBo ..))⟩
theorem Rps.set {v:Value} (r:Rp X h v d []) {vs ds f} (i:Nat) (rs:Rps X h vs ds f):∃ g,Rps X h (vs.set i v) (ds.set i d) g /\ g.Sublist f :=
 rs.ind (Ps:=fun vs ds f=>∀ i:Nat,∃ g,Rps X h (vs.set i v) (ds.set i d) g /\ g.Sublist f) (fun _=>⟨[],.nil,vCL _⟩)
  (fun r0 rs ih i=>match i with
   | 0=>⟨_,.cons r rs,List.sublist_append_right ..⟩
   | i + 1=>let ⟨_,h1,h2⟩:=ih i;⟨_,.cons r0 h1,List.Sublist.append (vCL _) h2⟩) i
def qNZ (i:Nat) (xs:List D) (lv:Nat) (a:D × Nat) (b:D × Nat) (Z:G):Option O:=ofI b.1 fun k=>if a.1.flat = true /\ 0 <= k /\ k < xs.length then some (.next (Z.set i (some (.list (xs.set k.toNat a.1),lv)))) else none
def qLE (_occ:List Nat) (i:Nat) (f g:Tg) (Z:G):Option O :=
 atL Z i fun xs lv=>if 1 <= lv /\ xs.length <= lim then Yj (f Z) Z fun a=>Yj (g Z) Z fun b=>qNZ i xs lv a b Z else none
section
variable {n:Nat} {s:Shared}
theorem jMI {ie:Expr} {spos:Pos} {occ2:List Nat} {g:Tg} (i:Nat) (h:Den c hm n sc nm e occ f) (h2:Den c hm n sc nm ie occ2 g) (hx:autoParam (nm[i]? = some x) yL)
  (hs:autoParam (∀ env:Env,env.scope = sc -> swapsWith e (some (.Subscript (.Name x px) ie spos)) pos.line env = pure false) yN) :
  jKM c hm n sc nm (.Assign [.Subscript (.Name x px) ie spos] e pos) (qLE occ i f g):=by
 intro A l env h0z f0 Z vf s r Q E hsF hR iv hf hQ hE
 obtain ⟨m,hn⟩:=iv.rd.ns
 obtain ⟨xs,lv,hgi,hf⟩:=jKE hf
 obtain ⟨⟨h1,hlen⟩,hf⟩:=ifs hf
 ··skip
   refine wpAny_Assign_Subscript (h.runS hsF.1 hR iv hf (fun d ld _ hg v fp s1z st rp tr lvl=>?_) hE) (hs env hsF.1)
   refine nn fun gN=>?_
   have iv1:=iv.keep st
   obtain ⟨a,t,vs,x',e1,e2,hl,hnd,hrs,e3,hb,hat,haj⟩:=iv1.lst hgi h1
   refine gN ?_
   rw [hx] at e3;obtain rfl:=vAy e3
   refine XS iv1.rd.fn hb ?_
   refine h2.runS hsF.1 ((iv.step st).room iv hR) iv1 hg (fun d2 ld2 _ hg2 v2 fp2 s2z st2 rp2 tr2 lvl2=>?_) (fun x s' q=>hE x s' (q.back (iv.step st)))
   ··refine nn fun gN=>?_
     obtain ⟨k,hk,hg2⟩:=Qe hg2
     have hk:d2 = .int k:=hk
     subst hk
     obtain ⟨⟨hfl,hk0,hk1⟩,hg2⟩:=ifs hg2
     obtain rfl:=vAy hg2
     obtain ⟨tk,rfl,rfl⟩:=rp2.inv
     have hfp:=rp.flat_fp hfl
     subst hfp
     have hn1z:=st.kp.ns m hn
     obtain ⟨t',hr',hsub⟩:=Rps.set (st2.kp.rp hn1z rp) k.toNat (st2.kp.rps hn1z hrs)
     refine gN ?_
     refine jAS (IsList.st st2 hn1z hl) (hnd.keep st2.kp hn1z) hk0 (Int.lt_trans (Int.lt_of_lt_of_le hk1 (by unfold lim at hlen;exact Int.ofNat_le.mpr hlen:(xs.length:Int) <= 10000000)) (by decide)) (by rw [(by simpa using hrs.length:vs.size = xs.length)];exact hk1) (fun h' hl' hnd' hs'=>?_)
     have hmem:∀ b ∈ t',b ∈ t:=fun b hb=>hsub.subset hb
     refine hQ _ _ ⟨_,(iv.step st).trans (jSM (occ:=[]) (lv':=lv) (t':=t') iv1 st2 hgi h1 e2 hs' hl' hnd' (by rw [Array.toList_setIfInBounds];exact hr') (fun q=>hat (hmem a q)) (fun b hb=>.inl (hmem b hb)) (fun _ _ l e=>⟨l,vBI _,e⟩) (vBI _) (.inl fun b hb=>.inl (hmem b hb)) ?_)⟩
     intro q
     refine ⟨?_,fun b hb=>.inl (hmem b hb)⟩
     have:=(iv1.own2 i _ lv hgi q).2
     rw [e2] at this
     exact (vCv.mp this).2.sublist hsub
end
noncomputable def jVM (p:Nat -> Bool):Nat -> Nat -> Nat
 | _,0=>0
 | s,m + 1=>if p s then jVM p (s + 1) m + 1 else 0
theorem qGT (p:Nat -> Bool):∀ s m,jVM p s m <= m:=by
 intro s m
 induction m generalizing s with
 | zero =>
  exact vBI _
 | succ m ih =>
  rw [jVM]
  split
  ·exact vBl (ih (s + 1))
  ·exact vBz _
theorem qGU {p:Nat -> Bool}:∀ {s m i},i < jVM p s m -> p (s + i) = true:=by
 intro s m
 induction m generalizing s with
 | zero =>
  intro _ h
  exact absurd h (by simp [jVM])
 | succ m ih =>
  intro i h
  rw [jVM] at h
  by_cases hp:p s = true
  ·rw [if_pos hp] at h
   cases i with
   | zero=>exact hp
   | succ i=>rw [show s + (i + 1) = s + 1 + i by exact vCI (lN [_,_] (.a (.v 0) (.a (.v 1) (.n 1))) (.a (.a (.v 0) (.n 1)) (.v 1)) [] rT) (lN [_,_] (.a (.a (.v 0) (.n 1)) (.v 1)) (.a (.v 0) (.a (.v 1) (.n 1))) [] rT)];exact (ih (s:=s + 1) (vCG h))
  ·rw [if_neg hp] at h;exact absurd h (vBX _)
theorem qCR {p:Nat -> Bool}:∀ {s m},jVM p s m < m -> p (s + jVM p s m) = false:=by
 intro s m
 induction m generalizing s with
 | zero =>
  intro h
  exact absurd h (absurd h (vBX _))
 | succ m ih =>
  intro h
  rw [jVM] at h ⊢
  by_cases hp:p s = true
  ·rw [if_pos hp] at h ⊢
   rw [show s + (jVM p (s + 1) m + 1) = s + 1 + jVM p (s + 1) m by exact vCI (lN [_,_] (.a (.v 0) (.a (.v 1) (.n 1))) (.a (.a (.v 0) (.n 1)) (.v 1)) [] rT) (lN [_,_] (.a (.a (.v 0) (.n 1)) (.v 1)) (.a (.v 0) (.a (.v 1) (.n 1))) [] rT)];exact (ih (s:=s + 1) (vCG h))
  ·rw [if_neg hp]
   simpa using hp
def zJ (ws:Tc) (w:Int) (a:Nat):Nat:=jVM (fun e=>decide ((sz ws a e:Int) <= w)) (a + 1) (ws.length - a)
theorem zx (ws:Tc) (w:Int) (a:Nat):zJ ws w a <= ws.length - a:=qGT _ _ _
theorem jPS {a:Nat} (h:i < zJ ws w a):(sz ws a (a + 1 + i):Int) <= w:=by
 simpa using (qGU h)
theorem jJN {a:Nat} (h:zJ ws w a < ws.length - a):w < (sz ws a (a + 1 + zJ ws w a):Int):=by
 unfold zJ
 simpa using (qCR h)
theorem jSU {a:Nat} (ha:a < ws.length) (hw:∀ x ∈ ws,(x.length:Int) <= w):0 < zJ ws w a:=by
 apply Nat.pos_of_ne_zero
 intro h0
 have h:=jJN (ws:=ws) (w:=w) (a:=a) (vBh (vBs h0) (Nat.sub_pos_of_lt ha))
 rw [h0] at h
 rw [(rfl:a + 1 + 0 = a + 1)] at h
 exact fZ (lZ [_,((sz ws a (a + 1):Nat):Int),(((ws.getD a []).length:Nat):Int)] (.n 1) (.n 0) [(.a (.v 0) (.n 1),.v 1),(.v 1,.v 2),(.v 2,.v 0)] rT h (zL (vBs (qDV ws ha))) (hw _ (vBT (getD_some [] ha))))
theorem qCS {a e:Nat} (h1:a < e) (h2:e <= ws.length):(sz ws a e:Int) <= w ↔ e <= a + zJ ws w a:=by
 constructor
 ·intro h
  apply vBy
  intro h3
  have:=zx ws w a
  have h4:=jJN (ws:=ws) (w:=w) (a:=a) (lN [_,_,_,_,_] (.a (.v 0) (.n 1)) (.v 1) [(.v 2,.v 3),(.a (.a (.v 4) (.v 0)) (.n 1),.v 2),(.v 3,.a (.v 1) (.v 4))] rT h2 h3 (sA ..))
  exact fZ (lZ [((sz ws a e:Nat):Int),_,((sz ws a (a + 1 + zJ ws w a):Nat):Int)] (.n 1) (.n 0) [(.v 0,.v 1),(.a (.v 1) (.n 1),.v 2),(.v 2,.v 0)] rT h h4 (zL (qFD ws (vBI a) (show a <= a + 1 + zJ ws w a by exact vBd (vBW ..)) (show a + 1 + zJ ws w a <= e by exact lN [_,_,_] (.a (.a (.v 0) (.n 1)) (.v 1)) (.v 2) [(.a (.a (.v 0) (.v 1)) (.n 1),.v 2)] rT h3))))
 ·intro h
  have:=jPS (ws:=ws) (w:=w) (a:=a) (i:=e - a - 1) (vCP (Nat.sub_lt (Nat.sub_pos_of_lt h1) Nat.one_pos) (Nat.sub_le_iff_le_add'.mpr h))
  rw [show a + 1 + (e - a - 1) = e by exact Nat.add_sub_cancel' h1] at this
  exact this
def yT (ws:Tc) (w:Int) (T:List Int) (a e:Nat):Int:=if e = ws.length then 0 else (w - (sz ws a e:Nat)) * (w - (sz ws a e:Nat)) + T.getD e 0
def ZG (ws:Tc) (w:Int) (T:List Int) (a:Nat):List (Nat × Int):=(List.range (zJ ws w a)).map fun i=>(a + 1 + i,yT ws w T a (a + 1 + i))
noncomputable def jIK (p:Nat × Int):D:=.tup [.int (p.1:Int),.int p.2]
def jTN (ws:Tc) (w:Int) (T:List Int) (a:Nat):List Int:=T.set a (jYA ((ZG ws w T a).map (·.2)))
def jBD (ws:Tc) (w:Int):Nat -> List Int
 | 0=>List.replicate (ws.length + 1) 0
 | i + 1=>jTN ws w (jBD ws w i) (ws.length - 1 - i)
def tab (ws:Tc) (w:Int):List Int:=jBD ws w ws.length
theorem yc (ws:Tc) (w:Int):∀ i,(jBD ws w i).length = ws.length + 1:=by
 intro i
 induction i with
 | zero =>
  simp [jBD]
 | succ i ih =>
  rw [jBD,jTN,List.length_set,ih]
theorem xu {a:Nat} {v:Int} (h:j ≠ a):(T.set a v).getD j 0 = T.getD j 0:=by
 simp only [vBJ,List.getElem?_set_ne (Ne.symm h)]
theorem jPM {a:Nat} {v:Int} (h:a < T.length):(T.set a v).getD a 0 = v:=by
 simp only [vBJ,vCR h,Option.getD_some]
theorem jQE {T':List Int} {a e:Nat} (h:T.getD e 0 = T'.getD e 0):yT ws w T a e = yT ws w T' a e:=by unfold yT;rw [h]
theorem jOG {T':List Int} {a:Nat} (h:∀ e,a < e -> T.getD e 0 = T'.getD e 0):ZG ws w T a = ZG ws w T' a:=by
 unfold ZG
 apply List.map_congr_left
 intro i _
 rw [jQE (h (a + 1 + i) (vBW ..))]
theorem jTQ (ws:Tc) (w:Int):∀ i,i <= ws.length -> (jBD ws w i).getD ws.length 0 = 0 /\ ∀ a,ws.length - i <= a -> a < ws.length -> (jBD ws w i).getD a 0 = jYA ((ZG ws w (jBD ws w i) a).map (·.2)):=by
 intro i
 induction i with
 | zero =>
  intro _
  exact ⟨by simp [jBD,vBJ],fun a h1 h2=>absurd h2 ((Nat.not_lt.mpr h1))⟩
 | succ i ih =>
  intro hi
  obtain ⟨h1,h2⟩:=ih (vBd hi)
  refine ⟨?_,fun a h3 h4=>?_⟩
  ·rw [jBD,jTN,xu (Nat.ne_of_gt (vBh (Nat.sub_le ..) (Nat.sub_lt (vCP (vBr _) hi) Nat.one_pos)))];exact h1
  ·have hc:ZG ws w (jBD ws w (i + 1)) a = ZG ws w (jBD ws w i) a:=jOG fun e he=>by
    rw [jBD,jTN,xu (fun q=>Nat.lt_irrefl e (vBh (vAz (vBs (q.trans ((Nat.sub_sub ..).trans (congrArg _ (Nat.add_comm 1 i))))) h3) he))]
   rw [hc,jBD,jTN]
   by_cases h5:a = ws.length - 1 - i
   ·subst h5
    rw [jPM (Nat.lt_trans h4 (vBs (yc ws w i).symm))]
   ·rw [xu h5]
    exact h2 a (Nat.sub_le_iff_le_add.mpr (Nat.le_of_lt_succ ((Nat.sub_lt_iff_lt_add hi).mp (Nat.lt_of_le_of_ne h3 fun q=>h5 (q.symm.trans ((congrArg _ (Nat.add_comm i 1)).trans (Nat.sub_sub ..).symm)))))) h4
def jNF (ws:Tc) (w:Int) (T:List Int):Prop:=T.length = ws.length + 1 /\ T.getD ws.length 0 = 0 /\ ∀ a,a < ws.length -> (∀ i,i < zJ ws w a -> T.getD a 0 <= yT ws w T a (a + 1 + i)) /\ ∃ i,i < zJ ws w a /\ T.getD a 0 = yT ws w T a (a + 1 + i)
theorem jLU  (l:List Int) (t:Int):l.foldl min t <= t /\ (∀ x ∈ l,l.foldl min t <= x) /\ (l.foldl min t = t \/ l.foldl min t ∈ l):=by
 induction l generalizing t with
 | nil=>exact ⟨Int.le_refl _,(fun _ h=>by cases h),.inl rfl⟩
 | cons y l ih =>
  obtain ⟨h1,h2,h3⟩:=ih (min t y)
  rw [List.foldl_cons]
  refine ⟨Int.le_trans h1 (Int.min_le_left ..),fun x hx=>?_,?_⟩
  ·rcases vCu.mp hx with hqq | hx
   ·rw [hqq];exact Int.le_trans h1 (Int.min_le_right ..)
   ·exact h2 x hx
  ·rcases h3 with h3 | h3
   ·rw [h3]
    by_cases h4:t <= y
    ·exact .inl (Int.min_eq_left h4)
    ·exact .inr (by rw [Int.min_eq_right (Int.le_of_lt (Int.not_le.mp h4))];exact vBA ..)
   ·exact .inr (vBC _ h3)
theorem jXZ {l:List Int} (h:l ≠ []):jYA l ∈ l /\ ∀ x ∈ l,jYA l <= x:=by
 cases l with
 | nil=>exact absurd rfl h
 | cons y l =>
  obtain ⟨h1,h2,h3⟩:=jLU (y :: l) y
  unfold jYA
  refine ⟨?_,h2⟩
  rcases h3 with h3 | h3
  ·show List.foldl min y (y :: l) ∈ _;rw [h3];exact vBA ..
  ·exact h3
theorem qq (hw:∀ x ∈ ws,(x.length:Int) <= w):jNF ws w (tab ws w):=by
 obtain ⟨h1,h2⟩:=jTQ ws w ws.length (vBI _)
 refine ⟨yc ws w ws.length,h1,fun a ha=>?_⟩
 have hne:(ZG ws w (tab ws w) a).map (·.2) ≠ []:=by
  unfold ZG
  intro e
  have:=congrArg List.length e
  simp at this
  exact absurd this (Nat.ne_of_gt (jSU ha hw))
 obtain ⟨h4,h5⟩:=jXZ hne
 unfold tab at h4 h5 ⊢
 rw [<- (h2 a (vAz (vBs (Nat.sub_self _)) (vBz _)) ha)] at h4 h5
 refine ⟨fun i hi=>h5 _ ?_,?_⟩
 ·rw [vBa]
  exact ⟨_,vBa.mpr ⟨i,vBV.mpr hi,rfl⟩,rfl⟩
 ·refine nn fun gN=>?_
  obtain ⟨p,hp,e⟩:=vBa.mp h4
  obtain ⟨i,hi,rfl⟩:=vBa.mp hp
  refine gN ?_
  exact ⟨i,vBV.mp hi,e.symm⟩
theorem jBH (src:Nat -> D) (st:Nat -> Option (D × Nat) -> G) (hst:∀ i v w,(st i v).set ix w = st i w):∀ (k m s:Nat) (v:Option (D × Nat)),k < m -> (∀ i,s <= i -> i < s + k -> ∃ w,fB (st i (some (src i,JZ (src i)))) = some (.next (st (i + 1) w))) -> fB (st (s + k) (some (src (s + k),JZ (src (s + k))))) = some (.brk Zbz) -> 
  Ym fB ix ((List.range' s m).map src) (st s v) = some (.next Zbz):=by
 intro k
 induction k with
 | zero =>
  intro m s v hk _ hb
  obtain ⟨m,rfl⟩:∃ m',m = m' + 1:=⟨m - 1,by exact vCI (lN [_,_] (.v 0) (.a (.v 1) (.n 1)) [(.v 0,.a (.v 1) (.n 1))] rT (sA ..)) (lN [_,_] (.a (.v 0) (.n 1)) (.v 1) [(.a (.v 0) (.n 1),.v 1)] rT (sB (lN [_] (.n 1) (.v 0) [(.a (.n 0) (.n 1),.v 0)] rT hk)))⟩
  rw [List.range'_succ,List.map_cons]
  exact jYI (by rw [hst];exact hb)
 | succ k ih =>
  intro m s v hk h hb
  refine nn fun gN=>?_
  obtain ⟨m,rfl⟩:∃ m',m = m' + 1:=⟨m - 1,by exact vCI (lN [_,_] (.v 0) (.a (.v 1) (.n 1)) [(.v 0,.a (.v 1) (.n 1))] rT (sA ..)) (lN [_,_] (.a (.v 0) (.n 1)) (.v 1) [(.a (.v 0) (.n 1),.v 1)] rT (sB (lN [_,_] (.n 1) (.v 0) [(.a (.a (.v 1) (.n 1)) (.n 1),.v 0)] rT hk)))⟩
  obtain ⟨w1,e1⟩:=h s (vBI _) (lN [_,_] (.a (.v 0) (.n 1)) (.a (.v 0) (.a (.v 1) (.n 1))) [] rT)
  refine gN ?_
  clear gN
  rw [List.range'_succ,List.map_cons]
  refine (Zn (by rw [hst];exact e1)).trans ?_
  exact ih m (s + 1) w1 (vCG hk) (fun i h1 h2=>h i (vBd h1) (lN [_,_,_] (.a (.v 0) (.n 1)) (.a (.v 1) (.a (.v 2) (.n 1))) [(.a (.v 0) (.n 1),.a (.a (.v 1) (.n 1)) (.v 2))] rT h2)) (by rw [show s + 1 + k = s + (k + 1) by exact Nat.add_right_comm ..];exact hb)
theorem jDM (src:Nat -> D) (st:Nat -> Option (D × Nat) -> G) (hst:∀ i v w,(st i v).set ix w = st i w) (k m:Nat) (v:Option (D × Nat)) (hk:k < m)
  (h:∀ i,i < k -> ∃ w,fB (st i (some (src i,JZ (src i)))) = some (.next (st (i + 1) w))) (hb:fB (st k (some (src k,JZ (src k)))) = some (.brk Zbz)) :
  Ym fB ix ((List.range m).map src) (st 0 v) = some (.next Zbz):=by
 rw [List.range_eq_range']
 exact jBH src st hst k m 0 v hk (fun i _ h2=>h i (lN [_,_] (.a (.v 0) (.n 1)) (.v 1) [(.a (.v 0) (.n 1),.a (.n 0) (.v 1))] rT h2)) (by rw [Nat.zero_add];exact hb)
theorem jWQ {g:Tg} {xs:List D} {lv'':Nat} (h1:Z[i]? = some (some (.list xs,lv))) (h2:1 <= lv) (h3:xs.length <= lim) (h4:f Z = some (.ok (d,lv'))) (h5:d.flat = true)
  (h6:g Z = some (.ok (.int (k:Int),lv''))) (h7:k < xs.length):qLE occ i f g Z = some (.next (Z.set i (some (.list (xs.set k d),lv)))):=by
 unfold qLE
 rw [qAO h1,if_pos ⟨h2,h3⟩,h4,vz,h6,vz]
 exact if_pos ⟨h5,vBi _,vCb.mpr h7⟩
theorem jWZ (n:Nat) (h:n <= lim):jEU [.int ((n:Int) - 1),.int (-1),.int (-1)] = some (.ok ((List.range n).map fun (i:Nat)=>.int (((n:Int) - 1) - i))):=by
 have hh:(n:Int) <= 10000000:=by unfold lim at h;exact Int.ofNat_le.mpr h
 have h3:((n:Int) - 1 - -1).toNat = n:=by rw [Int.sub_neg,Int.sub_add_cancel];rfl
 show (if _ then _ else _) = _
 rw [if_pos ⟨rfl,by exact lZ [(n:Int)] (.g (.n 1000000000)) (.s (.v 0) (.n 1)) [(.n 0,.v 0)] rT (vBi _),by exact lZ [(n:Int)] (.s (.v 0) (.n 1)) (.n 1000000000) [(.v 0,.n 10000000)] rT hh,by exact Int.le_add_one (vBi _),by exact vBi _,by rw [h3];exact h⟩,h3]
theorem qCA {a:Int} (h:a.natAbs < 10000000000000000000000000000000000000000):jFE a a = true:=by
 unfold jFE;rw [vBk (vCP h (vAz (by decide:(10000000000000000000000000000000000000000:Nat) <= 2 ^ 200) (Nat.pow_le_pow_right (by decide) (by decide):(2:Nat) ^ 200 <= 2 ^ 1000)):a.natAbs < 2 ^ 1000)];simp
theorem jYB (l:List Int) (h:l ≠ []):qME [.list (l.map .int)] = some (.ok (.int (jYA l),2)):=by
 show ((qf _).bind _) = _
 rw [jGR,Option.bind_some,if_pos h];rfl
theorem jYF (l:List Int) (h:l ≠ []):qJN [.list (l.map .int)] = some (.ok (.int (qEJ l),2)):=by
 show ((qf _).bind _) = _
 rw [jGR,Option.bind_some,if_pos h];rfl
theorem qLS {b e:Nat} (hbe:b <= e) (he:e <= ws.length) (hl:ws.length <= 2000) (hw:∀ w ∈ ws,w.length <= 1000):sz ws b e <= 2002000:=by
 rw [<- qFE hbe he];exact qIN _ _ hl hw
noncomputable def jDP (p:Nat -> Bool):Nat -> Nat
 | 0=>0
 | k + 1=>if p k then k else jDP p k
theorem jGO {p:Nat -> Bool}:∀ {k},(∃ i,i < k /\ p i = true) -> jDP p k < k /\ p (jDP p k) = true /\ ∀ j,j < k -> jDP p k < j -> p j = false:=by
 intro k
 induction k with
 | zero =>
  intro h
  obtain ⟨i,h,_⟩:=h;exact absurd h (vBX _)
 | succ k ih =>
  intro h
  rw [jDP]
  by_cases hp:p k = true
  ·rw [if_pos hp];exact ⟨by exact vCd _,hp,fun j h1 h2=>by exact absurd h1 (Nat.not_lt.mpr h2)⟩
  ·rw [if_neg hp]
   obtain ⟨h1,h2,h3⟩:=ih (by
    obtain ⟨i,hi,hi2⟩:=h
    refine ⟨i,?_,hi2⟩
    apply Nat.lt_of_le_of_ne (Nat.le_of_lt_succ hi)
    intro e;subst e;exact hp hi2)
   exact ⟨by exact Nat.lt_succ_of_lt h1,h2,fun j h4 h5=>by
    by_cases hj:j = k
    ·obtain rfl:=hj.symm;exact (by simpa using hp:p k = false)
    ·exact h3 j (Nat.lt_of_le_of_ne (Nat.le_of_lt_succ h4) hj) h5⟩
theorem jLV:∀ (l:List Int) (t:Int),t <= l.foldl max t /\ (∀ x ∈ l,x <= l.foldl max t) /\ (l.foldl max t = t \/ l.foldl max t ∈ l):=by
 intro l
 induction l with
 | nil =>
  intro t
  exact ⟨Int.le_refl _,(fun _ h=>by cases h),.inl rfl⟩
 | cons y l ih =>
  intro t
  obtain ⟨h1,h2,h3⟩:=ih (max t y)
  rw [List.foldl_cons]
  refine ⟨Int.le_trans (Int.le_max_left ..) h1,fun x hx=>?_,?_⟩
  ·rcases vCu.mp hx with hqq | hx
   ·rw [hqq];exact Int.le_trans (Int.le_max_right ..) h1
   ·exact h2 x hx
  ·rcases h3 with h3 | h3
   ·rw [h3]
    by_cases h4:y <= t
    ·exact .inl (Int.max_eq_left h4)
    ·exact .inr (by rw [Int.max_eq_right (Int.le_of_lt (Int.not_le.mp h4))];exact vBA ..)
   ·exact .inr (vBC _ h3)
theorem jYE {l:List Int} (h:l ≠ []):qEJ l ∈ l /\ ∀ x ∈ l,x <= qEJ l:=by
 cases l with
 | nil=>exact absurd rfl h
 | cons y l =>
  obtain ⟨h1,h2,h3⟩:=jLV (y :: l) y
  unfold qEJ
  refine ⟨?_,h2⟩
  rcases h3 with h3 | h3
  ·show List.foldl max y (y :: l) ∈ _;rw [h3];exact vBA ..
  ·exact h3
def isB (ws:Tc) (w:Int) (T:List Int) (a i:Nat):Bool:=T.getD a 0 == yT ws w T a (a + 1 + i)
def jCC (ws:Tc) (w:Int) (T:List Int) (a:Nat):Nat:=a + 1 + jDP (isB ws w T a) (zJ ws w a)
theorem qBW {a:Nat} (h:∃ i,i < zJ ws w a /\ T.getD a 0 = yT ws w T a (a + 1 + i)) :
  (((ZG ws w T a).filter fun p=>p.2 == T.getD a 0).map fun p=>(p.1:Int)) ≠ [] /\ qEJ (((ZG ws w T a).filter fun p=>p.2 == T.getD a 0).map fun p=>(p.1:Int)) = (jCC ws w T a:Nat):=by
 obtain ⟨h1,h2,h3⟩:=jGO (p:=isB ws w T a) (k:=zJ ws w a) (by obtain ⟨i,hi,e⟩:=h;exact ⟨i,hi,by unfold isB;rw [e];simp⟩)
 have hmem:((jCC ws w T a:Nat):Int) ∈ (((ZG ws w T a).filter fun p=>p.2 == T.getD a 0).map fun p=>(p.1:Int)):=by
  refine vBa.mpr ⟨(jCC ws w T a,yT ws w T a (jCC ws w T a)),List.mem_filter.mpr ⟨vBa.mpr ⟨_,vBV.mpr h1,rfl⟩,?_⟩,rfl⟩
  unfold isB at h2
  exact vBc.mpr (vBc.mp h2).symm
 refine ⟨(List.ne_nil_of_mem hmem:(((ZG ws w T a).filter fun p=>p.2 == T.getD a 0).map fun p=>(p.1:Int)) ≠ []),?_⟩
 refine nn fun gN=>?_
 obtain ⟨m1,m2⟩:=jYE (List.ne_nil_of_mem hmem:(((ZG ws w T a).filter fun p=>p.2 == T.getD a 0).map fun p=>(p.1:Int)) ≠ [])
 have hge:=m2 _ hmem
 obtain ⟨p,hp,e⟩:=vBa.mp m1
 obtain ⟨hp1,hp2⟩:=List.mem_filter.mp hp
 obtain ⟨i,hi,rfl⟩:=vBa.mp hp1
 have hi:=vBV.mp hi
 dsimp only at e hp2
 refine gN ?_
 clear gN
 rw [<- e] at hge ⊢
 unfold jCC at hge ⊢
 have:¬ jDP (isB ws w T a) (zJ ws w a) < i:=fun hlt=>by
  have h4:=h3 i hi hlt
  unfold isB at h4
  have:=vBc.mp hp2
  rw [this] at h4
  simp at h4
 exact Int.le_antisymm (lZ [(a:Int),(i:Int),((jDP (isB ws w T a) (zJ ws w a):Nat):Int)] (.a (.a (.v 0) (.n 1)) (.v 1)) (.a (.a (.v 0) (.n 1)) (.v 2)) [(.v 1,.v 2)] rT (zL (vBy this))) (lZ [(a:Int),((jDP (isB ws w T a) (zJ ws w a):Nat):Int),(i:Int)] (.a (.a (.v 0) (.n 1)) (.v 1)) (.a (.a (.v 0) (.n 1)) (.v 2)) [(.a (.a (.v 0) (.n 1)) (.v 1),.a (.a (.v 0) (.n 1)) (.v 2))] rT hge)
def bl (ws:Tc) (w:Int) (T:List Int):Nat -> Nat -> List Nat
 | 0,_=>[]
 | f + 1,a=>if a < ws.length then a :: bl ws w T f (jCC ws w T a) else []
theorem jPA (hR:jNF ws w T) {a:Nat} (ha:a < ws.length):a < jCC ws w T a /\ jCC ws w T a <= ws.length /\ jCC ws w T a <= a + zJ ws w a /\ (sz ws a (jCC ws w T a):Int) <= w /\ T.getD a 0 = yT ws w T a (jCC ws w T a):=by
 obtain ⟨h1,h2,h3⟩:=jGO (p:=isB ws w T a) (k:=zJ ws w a) (by obtain ⟨i,hi,e⟩:=(hR.2.2 a ha).2;exact ⟨i,hi,by unfold isB;rw [e];simp⟩)
 have hle:jCC ws w T a <= a + zJ ws w a:=by unfold jCC;exact lN [_,_,_] (.a (.a (.v 0) (.n 1)) (.v 1)) (.a (.v 0) (.v 2)) [(.a (.v 1) (.n 1),.v 2)] rT h1
 refine ⟨by unfold jCC;exact vBW ..,(vAz hle (Nat.add_le_of_le_sub' (vBd ha) (zx ws w a)):jCC ws w T a <= ws.length),hle,(qCS (by unfold jCC;exact vBW ..) (vAz hle (Nat.add_le_of_le_sub' (vBd ha) (zx ws w a)):jCC ws w T a <= ws.length)).mpr hle,?_⟩
 unfold isB at h2
 exact vBc.mp h2
theorem qNH (hR:jNF ws w T):∀ f a (acc:List Nat),ws.length - a <= f -> a <= ws.length -> VS ws w acc a -> VS ws w (acc ++ bl ws w T f a) ws.length:=by
 intro f
 induction f with
 | zero =>
  intro a acc h1 h2 h3
  rw [bl,List.append_nil];rw [show a = ws.length from vCI h2 (Nat.le_of_sub_eq_zero (Nat.le_zero.mp h1))] at h3;exact h3
 | succ f ih =>
  intro a acc h1 h2 h3
  rw [bl]
  by_cases ha:a < ws.length
  ·rw [if_pos ha]
   refine nn fun gN=>?_
   obtain ⟨n1,n2,n3,n4,n5⟩:=jPA hR ha
   have:=ih (jCC ws w T a) (acc ++ [a]) (vAz (Nat.sub_le_sub_left n1 _) (Nat.pred_le_pred h1)) n2 (h3.snoc n1 n4)
   rw [vCC] at this
   refine gN ?_
   clear gN
   exact this
  ·rw [if_neg ha,List.append_nil];rw [show a = ws.length by exact vCI h2 (vBy ha)] at h3;exact h3
def yX (ws:Tc) (w:Int):List Nat:=bl ws w (tab ws w) ws.length 0
theorem jQJ (hw:∀ x ∈ ws,(x.length:Int) <= w):VS ws w (yX ws w) ws.length:=by
 have:=qNH (qq hw) ws.length 0 [] (Nat.sub_le ..) (vBz _) ⟨by simp,.inl ⟨rfl,rfl⟩⟩
 rw [List.nil_append] at this
 exact this
theorem jVA {α:Type} (src:α -> D) (p:α -> Bool) (g:α -> D):∀ (l:List α),(∀ a ∈ l,fC (YL cap Z (src a)) = some (.ok (p a)) /\ (p a = true -> ∃ lv,fE (YL cap Z (src a)) = some (.ok (g a,lv)))) -> 
  zR fE fC cap Z (l.map src) = some ((l.filter p).map g):=by
 intro l
 induction l with
 | nil=>exact fun _=>rfl
 | cons x xs ihh =>
  intro h
  obtain ⟨h1,h2⟩:=h x (vBA ..)
  rw [List.map_cons,jJY,h1]
  have ih:=ihh fun y hy=>h y (vBC _ hy)
  cases hp:p x with
  | true =>
   obtain ⟨lv,h3⟩:=h2 hp
   rw [h3,ih,List.filter_cons_of_pos hp];rfl
  | false=>rw [ih,List.filter_cons_of_neg (by rw [hp];exact vCo)];rfl
def prN (ws:Tc) (w:Int) (a e:Nat):Int:=if e = ws.length then 0 else (w - (sz ws a e:Nat)) * (w - (sz ws a e:Nat))
open PySem.AutoSeq1 (wpAny_loadPart')
open MeetsSeq MeetsSeq2 MeetsSeq3 SeqRoads2
theorem Rps.snoc_inv {xs:List D}:∀ {vs:List Value} {t:List Addr},Rps X h vs (xs ++ [d]) t -> ∃ vs0 v t0 f,vs = vs0 ++ [v] /\ t = t0 ++ f /\ Rps X h vs0 xs t0 /\ Rp X h v d f:=by
 induction xs with
 | nil =>
  intro vs t r
  refine nn fun gN=>?_
  obtain ⟨r1,rs⟩:=r.invC
  obtain ⟨rfl,rfl⟩:=rs.inv
  refine gN ?_
  clear gN
  exact ⟨[],_,[],_,rfl,List.append_nil _,.nil,r1⟩
 | cons x xs ih =>
  intro vs t r
  refine nn fun gN=>?_
  obtain ⟨r1,rs⟩:=r.invC
  obtain ⟨vs0,v',t0,f',rfl,rfl,h3,h4⟩:=ih rs
  refine gN ?_
  clear gN
  exact ⟨_ :: vs0,v',_ ++ t0,f',rfl,(vCC ..).symm,.cons r1 h3,h4⟩
noncomputable abbrev jNH:=Tc
noncomputable def qEU (P:List jNH) (ws:jNH):List jNH:=P.dropLast ++ [P.getLast?.getD [] ++ ws]
def qJB (p:List jNH × Bool) (ws:jNH):List jNH × Bool:=if ws = [] then (p.1,false) else if p.2 then (qEU p.1 ws,true) else (p.1 ++ [ws],true)
structure CS where
 parts:List jNH
 held:List Nat
 word:Bool
 row:Bool
def qKP (Wz:CS) (ch:Nat):CS :=
 if ch ≠ 32 /\ ch ≠ 10 then ⟨if Wz.held = [] /\ Wz.row = false then Wz.parts ++ [[]] else Wz.parts,Wz.held ++ [ch],true,true⟩
 else ⟨if Wz.held = [] then Wz.parts else qEU Wz.parts [Wz.held],[],if ch = 10 then false else Wz.word,if ch = 10 then (if Wz.word then Wz.row else false) else Wz.row⟩
def CI (k:Nat) (Wz:CS):Prop:=(Wz.row = true -> Wz.parts ≠ []) /\ (Wz.held ≠ [] -> Wz.parts ≠ []) /\ Wz.parts.length <= k /\ Wz.held.length <= k /\ ∀ p ∈ Wz.parts,p.length <= k
theorem qAQ (P:List jNH) (a:jNH):qEU P a ≠ []:=by unfold qEU;simp
theorem jTG {P:List jNH} {a p:jNH} (h:∀ p ∈ P,p.length <= k) (hp:p ∈ qEU P a):p.length <= k + a.length:=by
 unfold qEU at hp
 rcases vBK.mp hp with hp | hp
 ·exact lN [_,_,_] (.v 0) (.a (.v 1) (.v 2)) [(.v 0,.v 1)] rT (h p ((List.dropLast_sublist P).subset hp))
 ·rw [vBH.mp hp,vBO]
  cases hq:P.getLast? with
  | none=>simp
  | some q=>simp;exact lN [_,_] (.v 0) (.v 1) [(.v 0,.v 1)] rT (h q (List.mem_of_getLast? hq))
theorem jTH (P:List jNH) (a:jNH) (h:P ≠ []):(qEU P a).length = P.length:=by
 unfold qEU;rw [vBO,List.length_dropLast];simp;exact vCI (lN [_,_] (.a (.v 0) (.n 1)) (.v 1) [(.a (.v 0) (.n 1),.v 1)] rT (sB (lN [_] (.n 1) (.v 0) [(.a (.n 0) (.n 1),.v 0)] rT (vBn.mpr h)))) (lN [_,_] (.v 0) (.a (.v 1) (.n 1)) [(.v 0,.a (.v 1) (.n 1))] rT (sA ..))
theorem CI.step {Wz:CS} (h:CI k Wz) (ch:Nat):CI (k + 1) (qKP Wz ch):=by
 refine nn fun gN=>?_
 obtain ⟨P,hd,wd,rw'⟩:=Wz
 obtain ⟨h1,h2,h3,h4,h5⟩:=h
 refine gN ?_
 clear gN
 unfold qKP
 by_cases hc:ch ≠ 32 /\ ch ≠ 10
 ·rw [if_pos hc]
  dsimp only
  have hne:(if hd = [] /\ rw' = false then P ++ [[]] else P) ≠ []:=by
   by_cases h0:hd = [] /\ rw' = false
   ·rw [if_pos h0];simp
   ·rw [if_neg h0]
    by_cases h6:hd = []
    ·exact h1 (by cases hr:rw' <;> simp_all)
    ·exact h2 h6
  refine ⟨fun _=>hne,fun _=>hne,?_,by simp;exact h4,fun p hp=>?_⟩
  ·dsimp only;split
   ·simp;exact h3
   ·exact Nat.le_succ_of_le h3
  ·dsimp only at hp
   split at hp
   ·rcases vBK.mp hp with hp | hp
    ·exact lN [_,_] (.v 0) (.a (.v 1) (.n 1)) [(.v 0,.v 1)] rT (h5 p hp)
    ·rw [vBH.mp hp];simp
   ·exact lN [_,_] (.v 0) (.a (.v 1) (.n 1)) [(.v 0,.v 1)] rT (h5 p hp)
 ·rw [if_neg hc]
  by_cases h0:hd = []
  ·rw [if_pos h0]
   refine ⟨fun hr=>h1 ?_,fun hr=>absurd rfl hr,by dsimp only;exact lN [_,_] (.v 0) (.a (.v 1) (.n 1)) [(.v 0,.v 1)] rT h3,by simp,fun p hp=>by exact lN [_,_] (.v 0) (.a (.v 1) (.n 1)) [(.v 0,.v 1)] rT (h5 p hp)⟩
   dsimp only at hr
   split at hr
   ·split at hr
    ·exact hr
    ·cases hr
   ·exact hr
  ·rw [if_neg h0]
   refine ⟨fun _=>qAQ _ _,fun hr=>absurd rfl hr,by rw [jTH P _ (h2 h0)];exact lN [_,_] (.v 0) (.a (.v 1) (.n 1)) [(.v 0,.v 1)] rT h3,by simp,fun p hp=>?_⟩
   simpa using (jTG h5 hp)
def PI (k:Nat) (p:List jNH × Bool):Prop:=(p.2 = true -> p.1 ≠ []) /\ p.1.length <= k /\ ∀ q ∈ p.1,q.length <= k
theorem PI.step {p:List jNH × Bool} (h:PI k p) (ws:jNH):PI (k + (ws.length + 1)) (qJB p ws):=by
 obtain ⟨P,g⟩:=p
 obtain ⟨h1,h2,h3⟩:=h
 dsimp only at h1 h2 h3
 unfold qJB
 by_cases hw:ws = []
 ·rw [if_pos hw];exact ⟨(fun h=>by cases h),by exact lN [_,_,_] (.v 0) (.a (.v 1) (.a (.v 2) (.n 1))) [(.v 0,.v 1)] rT h2,fun q hq=>by exact lN [_,_,_] (.v 0) (.a (.v 1) (.a (.v 2) (.n 1))) [(.v 0,.v 1)] rT (h3 q hq)⟩
 ·rw [if_neg hw]
  dsimp only
  cases g
  ·rw [if_neg (by decide)]
   refine ⟨fun _=>by simp,by simp;exact lN [_,_,_] (.a (.v 0) (.n 1)) (.a (.v 1) (.a (.v 2) (.n 1))) [(.v 0,.v 1)] rT h2,fun q hq=>?_⟩
   rcases vBK.mp hq with hq | hq
   ·exact lN [_,_,_] (.v 0) (.a (.v 1) (.a (.v 2) (.n 1))) [(.v 0,.v 1)] rT (h3 q hq)
   ·rw [vBH.mp hq];exact lN [_,_] (.v 0) (.a (.v 1) (.a (.v 0) (.n 1))) [] rT
  ·rw [if_pos rfl]
   refine ⟨fun _=>qAQ _ _,by dsimp only;rw [jTH P _ (h1 rfl)];exact lN [_,_,_] (.v 0) (.a (.v 1) (.a (.v 2) (.n 1))) [(.v 0,.v 1)] rT h2,fun q hq=>?_⟩
   have:=jTG h3 hq;exact lN [_,_,_] (.v 0) (.a (.v 1) (.a (.v 2) (.n 1))) [(.v 0,.a (.v 1) (.v 2))] rT this
theorem VS.asc {m:Nat} (h:VS ws w fs m):∀ k,k + 1 < fs.length -> fs.getD k 0 < fs.getD (k + 1) 0:=by
 intro k hk
 rcases h.2 with ⟨_,h2⟩ | ⟨_,_,h3⟩
 ·subst h2;simp at hk
 ·have:=(h3 k (vBd hk)).1
  unfold nx at this
  rw [if_pos hk] at this;exact this
theorem VS.good (h:VS ws w fs ws.length):zv (nz fs) ws.length = true:=by
 rcases h.2 with ⟨h1,h2⟩ | ⟨h1,h2,h3⟩
 ·subst h2;simp [zv,nz,h1]
 ·unfold zv
  rw [if_neg (fun e=>h1 (nz_nil.mp e))]
  have hd:jAZ (nz fs) = none:=by
   unfold jAZ
   rw [List.find?_eq_none]
   intro i hi
   rw [jGI] at hi
   rw [jIO,jIO,Nat.add_comm 1 i]
   simp only [vBZ];exact fun eq=>fZ (lZ [((fs.getD i 0:Nat):Int),((fs.getD (i + 1) 0:Nat):Int)] (.n 1) (.n 0) [(.a (.v 0) (.n 1),.v 1),(.v 1,.v 0)] rT (zT (h.asc i (Nat.add_lt_of_lt_sub (vBV.mp hi)))) eq)
  have hlast:(nz fs).getLast?.getD 0 = (fs.getD (fs.length - 1) 0:Nat):=by
   rw [vCM,jGI,<- jIO,vBJ]
  have hl:=(h3 (fs.length - 1) (Nat.sub_one_lt_of_lt (vBn.mpr h1)))
  unfold nx at hl
  rw [if_neg (Nat.not_lt.mpr (Nat.le_add_of_sub_le (Nat.le_of_lt_succ (vCd _))))] at hl
  rw [hd,hlast,jIO,h2]
  simp only [Option.isNone_none,Bool.and_true]
  simp
  simpa using hl.1
theorem jYJ {p:jNH} (h:VS p w fs p.length):(kd p (nz fs)).length <= p.length:=by
 unfold kd;rw [vBF,vCB,jGI];exact h.1
def qKT (ws:Tc) (w:Int) (T:List (Option Int)) (a:Nat):List (Nat × Int) :=
 (List.range (zJ ws w a)).filterMap fun i=>(T.getD (a + 1 + i) none).map fun c=>(a + 1 + i,prN ws w a (a + 1 + i) + c)
def qOF (l:List (Nat × Int)):Option Int:=if l = [] then none else some (jYA (l.map (·.2)))
def qLV (ws:Tc) (w:Int) (T:List (Option Int)):List (Option Int):=(List.range ws.length).map (fun a=>qOF (qKT ws w T a)) ++ [none]
def qLW (ws:Tc) (w:Int):Nat -> List (Option Int)
 | 0=>List.replicate ws.length none ++ [some 0]
 | k + 1=>qLV ws w (qLW ws w k)
def nxC (ws:Tc) (w:Int) (T:List (Option Int)) (a:Nat) (c:Int):Nat:=(qEJ (((qKT ws w T a).filter fun p=>p.2 == c).map fun p=>(p.1:Int))).toNat
def cl (ws:Tc) (w:Int):Nat -> Nat -> List Nat
 | 0,_=>[]
 | k + 1,a=>a :: cl ws w k (nxC ws w (qLW ws w k) a (((qLW ws w (k + 1)).getD a none).getD 0))
open Classical in
noncomputable def cut (S:Addr -> Prop) (h:Heap):Heap:={ h with objs:=h.objs.mapIdx fun i o=>if S i then o else { o with data:=.freed } }
theorem Qq (hb:S b):(cut S h).get? b = h.get? b:=by
 unfold Heap.get? cut
 simp only [Array.getElem?_mapIdx]
 cases h.objs[b]? with
 | none=>rfl
 | some o=>rw [Option.map_some,if_pos hb]
theorem z8 (hb:¬ S b):(cut S h).get? b = none:=by
 unfold Heap.get? cut
 simp only [Array.getElem?_mapIdx]
 cases h.objs[b]? with
 | none=>rfl
 | some o=>rw [Option.map_some,if_neg hb]
theorem XK (e:(cut S h).get? b = some o):S b /\ h.get? b = some o:=by
 by_cases hb:S b
 ·rw [Qq hb] at e;exact ⟨hb,e⟩
 ·rw [z8 hb] at e;exact nos e
noncomputable def pgD (n1 n2 n3:Int) (t1 t2 t3:Tok) (vk vw vp:Value) (n:Nat × Array (Option Value)):Obj :=
 { cls:=.type "dict",data:=.dict #[⟨n1,.str "kept" t1,vk⟩,⟨n2,.str "wide" t2,vw⟩,⟨n3,.str "past" t3,vp⟩] n.1,slots:=n.2 }
inductive PgA (mg:Str -> Option Value) (h:Heap) (mu:List Addr) (a:Addr) (p:Pg) (dx pa:Addr):Prop
 | mk (C:Addr) (n1 n2 n3:Int) (t1 t2 t3:Tok) (vk vw:Value) (n:Nat × Array (Option Value)) (k:Nat) (vs:Array Value) (sl:Array (Option Value)) (fk fp:List Addr)
  (h1:mg "Page" = some (.ref C)) (h2:h.get? a = some { cls:=.ref C,dict:=some dx,data:=.plain })
  (h3:h.get? dx = some (pgD n1 n2 n3 t1 t2 t3 vk vw (.ref pa) n)) (h4:h.get? pa = some { cls:=.type "list",data:=.seq vs k,slots:=sl })
  (h5:Rp mg h vk p.k fk) (h6:Rp mg h vw p.w []) (h7:Rps mg h vs.toList p.p fp) (h8:∀ b ∈ fk,b ∉ mu) (h9:∀ b ∈ fp,b ∉ mu) (h10:dx ∈ mu) (h11:pa ∈ mu):PgA mg h mu a p dx pa
inductive HdA (mg:Str -> Option Value) (h:Heap) (mu:List Addr) (H:Addr) (xs:List D):Prop
 | mk (k:Nat) (vs:Array Value) (sl:Array (Option Value)) (fp:List Addr) (h1:h.get? H = some { cls:=.type "list",data:=.seq vs k,slots:=sl })
  (h2:Rps mg h vs.toList xs fp) (h3:∀ b ∈ fp,b ∉ mu) (h4:H ∈ mu):HdA mg h mu H xs
structure Wd (c:Cx):Prop where
 km:∀ b ∈ c.mu,∃ o T,c.base.get? b = some o /\ o.cls = .type T /\ T ≠ "tuple"
 kf:∀ b o,b ∈ c.mu -> c.base.get? b = some o -> ∀ vs,o.data ≠ .fields vs
 pg:∃ dx pa:Addr -> Addr,(∀ a p,c.sg.pg a = some p -> PgA c.mg c.base c.mu a p (dx a) (pa a)) /\ 
  (∀ a a' p p',c.sg.pg a = some p -> c.sg.pg a' = some p' -> a ≠ a' -> dx a ≠ dx a' /\ pa a ≠ pa a') /\ ∀ a p H xs,c.sg.pg a = some p -> c.sg.hd H = some xs -> pa a ≠ H
 hd:∀ H xs,c.sg.hd H = some xs -> HdA c.mg c.base c.mu H xs
def Tp (h:Heap) (b:Addr):Prop:=∃ o vs n,h.get? b = some o /\ o.cls = .type "tuple" /\ o.data = .seq vs n
structure Vh (c1z:Cx) (h1z:Heap) (c:Cx) (h:Heap):Prop where
 cx:∃ b mu sg,c = { c1z with base:=b,mu:=mu,sg:=sg }
 kp:KpP (· ∈ c1z.mu) h1z h
 nb:∀ b o,c.base.get? b = some o -> (∃ o',c1z.base.get? b = some o') \/ h1z.get? b = none \/ Tp h1z b
 ob:∀ b o,c1z.base.get? b = some o -> ∃ o',c.base.get? b = some o'
 kb:∀ b o,c1z.base.get? b = some o -> b ∉ c1z.mu -> c.base.get? b = some o
 mu:∀ b ∈ c.mu,b ∈ c1z.mu \/ (c1z.base.get? b = none /\ h1z.get? b = none)
 mo:∀ b ∈ c1z.mu,b ∈ c.mu
 wd:Wd c
structure Sp (N:Addr -> Prop) (c:Cx) (s:Shared) (c':Cx) (s':Shared):Prop where
 same:∃ h tk,s' = { s with heap:=h,toks:=tk }
 cx:∃ b mu sg,c' = { c with base:=b,mu:=mu,sg:=sg }
 kp:KpP (· ∈ c.mu) s.heap s'.heap
 nb:∀ b o,c'.base.get? b = some o -> (∃ o',c.base.get? b = some o') \/ s.heap.get? b = none \/ N b \/ Tp s.heap b
 ob:∀ b o,c.base.get? b = some o -> ∃ o',c'.base.get? b = some o'
 kb:∀ b o,c.base.get? b = some o -> b ∉ c.mu -> c'.base.get? b = some o
 mu:∀ b ∈ c'.mu,b ∈ c.mu \/ (c.base.get? b = none /\ (s.heap.get? b = none \/ N b))
 mo:∀ b ∈ c.mu,b ∈ c'.mu
 nn:∀ b,N b -> ∃ o,s.heap.get? b = some o /\ JW o
 wd:Wd c'
 gd:Gd c' s'
section
variable {s:Shared}
theorem Vh.refl (hw:Wd c):Vh c h c h :=
 ⟨⟨_,_,_,rfl⟩,KpP.refl _ _,fun b o e=>.inl ⟨o,e⟩,fun b o e=>⟨o,e⟩,fun _ _ e _=>e,fun _ h=>.inl h,fun _ h=>h,hw⟩
theorem Vh.step (x:Vh c1z h1z c h) (k:KpP (fun _=>False) h h2z):Vh c1z h1z c h2z :=
 ⟨x.cx,x.kp.trans k fun _ _ _ _=>id,x.nb,x.ob,x.kb,x.mu,x.mo,x.wd⟩
theorem Sp.fz (x:Sp N c s c' s') {a:Addr} (f:Fz c a):Fz c' a:=by
 obtain ⟨⟨o,e⟩,hm⟩:=f
 refine ⟨x.ob a o e,fun q=>?_⟩
 rcases x.mu a q with w | ⟨w,_⟩
 ·exact hm w
 ·rw [e] at w;exact nos w.symm
theorem Vh.gone (hw:Wd c1z) (x:Vh c1z h1z c h) (hs:c.base.StaysIn h) (e:h.get? b = none):h1z.get? b = none:=by
 cases q:h1z.get? b with
 | none=>rfl
 | some o =>
  by_cases hb:b ∈ c1z.mu
  ·obtain ⟨o',T,w,_⟩:=hw.km b hb
   obtain ⟨o'',w'⟩:=x.ob b o' w
   rw [hs b _ w'] at e;exact son e
  ·obtain ⟨_,sl,w⟩:=x.kp b o hb q
   rw [e] at w;exact nos w
def jVL (h0z:Heap) (c':Cx) (h':Heap):Heap:=cut (fun b=>h0z.get? b ≠ none \/ c'.base.get? b ≠ none) h'
theorem ne_none {α:Type} {x:Option α}:x ≠ none ↔ ∃ o,x = some o:=Option.ne_none_iff_exists'
theorem Z6 (e:h0z.get? b = none) (e':c'.base.get? b = none):(jVL h0z c' h).get? b = none :=
 z8 (by rintro (q | q);exact q e;exact q e')
theorem Iv.go (iv:Iv c h0z f0 env nm Z vf s) (hw:Wd c) (hf:∀ a ∈ f0,a ∉ c.mu) (hN:∀ b,N b -> ¬ Mut env Z vf b) (hNm:∀ i a,a ∈ (vf i).2 -> N a -> a ∉ c'.mu) (g:Sp N c s c' s'):Iv c' (jVL h0z c' s'.heap) f0 env nm Z vf s':=by
 obtain ⟨b',mu',sg',ec⟩:=g.cx
 have hnm:∀ {b:Addr},h0z.get? b = none -> b ∉ c.mu:=fun {b} e q=>by
  obtain ⟨o,_,w,_⟩:=hw.km b q
  rw [iv.bh b o w] at e;exact nos e.symm
 have hMT:∀ {b:Addr},Mut env Z vf b -> ¬ Tp s.heap b:=fun {b} hM ⟨o,vs,k,t1,t2,t3⟩=>by
  rcases hM.kind iv t1 with ⟨es,j,_,w⟩ | ⟨v,w⟩ | ⟨_,w,_⟩
  ·rw [t3] at w;cases w
  ·rw [t3] at w;cases w
  ·rw [t2] at w;exact absurd w (by decide)
 have hnb:∀ {b:Addr} {o:Obj},h0z.get? b = none -> s.heap.get? b = some o -> Mut env Z vf b -> c'.base.get? b = none:=fun {b o} e e' hM=>by
  cases q:c'.base.get? b with
  | none=>rfl
  | some o' =>
   rcases g.nb b o' q with ⟨o'',w⟩ | w | w | w
   ·rw [iv.bh b o'' w] at e;exact nos e.symm
   ·rw [e'] at w;exact son w
   ·exact absurd hM (hN b w)
   ·exact absurd w (hMT hM)
 have hfm':∀ i a,a ∈ (vf i).2 -> a ∉ c'.mu:=fun i a ha q=>by
  obtain ⟨o,_,_,z1,_⟩:=iv.al i a ha
  rcases g.mu a q with w | ⟨_,w | w⟩
  ·rcases iv.org i a ha with r | r | r
   ·exact hnm r w
   ·exact hf a r w
   ·exact r.2 w
  ·rw [z1] at w;exact son w
  ·exact hNm i a ha w q
 have hfm:∀ i a,a ∈ (vf i).2 -> a ∉ c.mu:=fun i a ha=>by
  rcases iv.org i a ha with q | q | q
  ·exact hnm q
  ·exact hf a q
  ·exact q.2
 have hk:∀ b o,b ∉ c.mu -> s.heap.get? b = some o -> JW o -> s'.heap.get? b = some o:=fun b o hb e nd=>(g.kp b o hb e).1 nd
 have hkt:∀ b o,b ∈ c.mu -> s.heap.get? b = some o -> ∃ T,o.cls = .type T /\ T ≠ "tuple":=fun b o hb e=>by
  obtain ⟨o',T,w1,w2,w3⟩:=hw.km b hb
  rw [iv.rd.bs.1 b o' w1] at e;obtain rfl:=vAy e;exact ⟨T,w2,w3⟩
 obtain ⟨m,hn⟩:=iv.rd.ns
 have hns:∀ m,s.heap.Ns env.locals m -> s'.heap.Ns env.locals m:=fun m ⟨o,es,ep,z1,z2,z3,z4⟩=>by
  obtain ⟨_,sl,w⟩:=g.kp _ o (hnm iv.nl:env.locals ∉ c.mu) z1
  exact ⟨_,es,ep,w,z2,z3,z4⟩
 have hL:∃ o,s.heap.get? env.locals = some o:=let ⟨o,_,_,z,_⟩:=hn;⟨o,z⟩
 obtain ⟨oL,hL⟩:=hL
 have hnd:∀ a,a ∉ c.mu -> Nd s.heap a -> Nd s'.heap a:=fun a ha ⟨o,vs,k,z1,z2,z3⟩=>⟨o,vs,k,hk a o ha z1 (JK z2),z2,z3⟩
 have hrp:∀ {v d fp},Rp c.mg s.heap v d fp -> (∀ a ∈ fp,a ∉ c.mu) -> Rp c'.mg s'.heap v d fp:=fun {v d fp} r hr=>by
  rw [(by rw [ec]:c'.mg = c.mg)];exact r.keepOn (W:=(· ∈ c.mu)) hk hkt hr
 refine ⟨⟨g.gd,⟨m,hns m hn⟩,hnb iv.nl hL (.inl rfl),iv.rd.fn,iv.rd.gl,iv.rd.bl,iv.rd.cl,fun i d lv e=>?_⟩,fun b o _ e=>?_,Z6 iv.nl (hnb iv.nl hL (.inl rfl)),fun x a e=>?_,iv.cd,iv.nd,fun i a ha=>?_,fun i a ha=>?_,fun i d lv e q a t r=>?_,fun i d lv e q=>?_,fun b o e=>?_⟩
 ·refine nn fun gN=>?_
  obtain ⟨y,z1,⟨z2,z3,z4⟩,z5⟩:=iv.rd.var i d lv e
  refine gN ?_
  clear gN
  refine ⟨y,z1,⟨z2,z3,?_⟩,hrp z5 (hfm i)⟩
  rcases z4 with ⟨w1,m',w2,w3⟩ | ⟨w1,cl,w2,o,w3,w4⟩
  ·exact .inl ⟨w1,m',hns _ w2,w3⟩
  ·exact .inr ⟨w1,cl,w2,o,hk cl o (hnm (iv.ce y cl w2).1) w3 (Jd w4),w4⟩
 ·obtain ⟨_,w⟩:=XK e;exact ⟨fun _=>w,o.slots,w⟩
 ·refine nn fun gN=>?_
  obtain ⟨z1,v,o,z2,z3⟩:=iv.ce x a e
  refine gN ?_
  clear gN
  exact ⟨Z6 z1 (hnb z1 z2 (.inr (.inl ⟨x,e⟩))),v,o,hk a o (hnm z1) z2 (Jd z3),z3⟩
 ·obtain ⟨o,vs,n,z1,z2,z3⟩:=iv.al i a ha
  exact ⟨o,vs,n,hk a o (hfm i a ha) z1 (JK z3),z2,z3⟩
 ·refine nn fun gN=>?_
  obtain ⟨o,vs,n,z1,_⟩:=iv.al i a ha
  refine gN ?_
  clear gN
  rcases iv.org i a ha with w | w | w
  ·cases q:c'.base.get? a with
   | none=>exact .inl (Z6 w q)
   | some o'=>exact .inr (.inr ⟨⟨o',q⟩,hfm' i a ha⟩)
  ·exact .inr (.inl w)
  ·exact .inr (.inr (g.fz w))
 ·refine nn fun gN=>?_
  obtain ⟨z1,z2,z3,z4⟩:=iv.own1 i d lv e q a t r
  obtain ⟨o,_,_,z5,_⟩:=id z3
  refine gN ?_
  clear gN
  exact ⟨Z6 z1 (hnb z1 z5 (.inr (.inr ⟨i,d,lv,e,.inl ⟨q,t,r⟩⟩))),z2,hnd a (hnm z1) z3,z4⟩
 ·obtain ⟨z1,z2⟩:=iv.own2 i d lv e q
  refine ⟨fun a ha=>?_,z2⟩
  refine nn fun gN=>?_
  obtain ⟨z3,z4,z5⟩:=z1 a ha
  obtain ⟨o,_,_,z6,_⟩:=id z4
  refine gN ?_
  clear gN
  exact ⟨Z6 z3 (hnb z3 z6 (.inr (.inr ⟨i,d,lv,e,.inr ⟨q,ha⟩⟩))),hnd a (hnm z3) z4,z5⟩
 ·show (jVL h0z c' s'.heap).get? b = some o
  unfold jVL
  rw [Qq (.inr (by rw [e];exact fun q=>nomatch q))]
  exact g.gd.1 b o e
theorem Vh.go (hw1z:Wd c1z) (hs1z:c1z.base.StaysIn h1z) (hN:∀ b,N b -> h1z.get? b = none) (iv:Iv c h0z f0 env nm Z vf s) (x:Vh c1z h1z c h0z) (g:Sp N c s c' s'):Vh c1z h1z c' (jVL h0z c' s'.heap):=by
 refine nn fun gN=>?_
 have y:=x.step iv.kb
 have hbs:=iv.rd.bs.1
 obtain ⟨b,mu,sg,ex⟩:=x.cx
 obtain ⟨b',mu',sg',ey⟩:=g.cx
 have hmu:∀ b o,h1z.get? b = some o -> b ∉ c1z.mu -> b ∉ c.mu:=fun b o e hb q=>by
  rcases x.mu b q with w | ⟨_,w⟩
  ·exact hb w
  ·rw [e] at w;exact nos w.symm
 refine gN ?_
 clear gN
 refine ⟨⟨b',mu',sg',by rw [ey,ex]⟩,fun b o hb e=>?_,fun b o e=>?_,fun b o e=>?_,fun b o e hb=>?_,fun b hb=>?_,fun b hb=>g.mo b (x.mo b hb),g.wd⟩
 ·obtain ⟨_,sl,w⟩:=x.kp b o hb e
  unfold jVL
  rw [Qq (.inl (by rw [w];exact fun q=>nomatch q))]
  exact (y.kp.trans g.kp (fun b o e hb=>hmu b o e hb)) b o hb e
 ·rcases g.nb b o e with ⟨o',w⟩ | w | w | ⟨o',vs,k,w1,w2,w3⟩
  ·exact x.nb b o' w
  ·exact .inr (.inl (y.gone hw1z hbs w))
  ·exact .inr (.inl (hN b w))
  ·cases q:h1z.get? b with
   | none=>exact .inr (.inl rfl)
   | some o1z =>
    refine .inr (.inr ?_)
    have hb:b ∉ c1z.mu:=fun z=>by
     obtain ⟨o'',T,z1,z2,z3⟩:=(x.wd).km b (x.mo b z)
     rw [hbs b _ z1] at w1;obtain rfl:=vAy w1
     rw [z2] at w2;injection w2 with w2;exact z3 w2
    obtain ⟨_,sl,z⟩:=y.kp b o1z hb q
    rw [z] at w1;obtain rfl:=vAy w1
    exact ⟨o1z,vs,k,q,w2,w3⟩
 ·obtain ⟨o',w⟩:=x.ob b o e;exact g.ob b o' w
 ·exact g.kb b o (x.kb b o e hb) (hmu b o (hs1z b o e) hb)
 ·rcases g.mu b hb with w | ⟨w1,w | w⟩
  ·exact x.mu b w
  ·refine .inr ⟨?_,y.gone hw1z hbs w⟩
   cases q:c1z.base.get? b with
   | none=>rfl
   | some o=>obtain ⟨o',z⟩:=x.ob b o q;rw [w1] at z;exact nos z
  ·refine .inr ⟨?_,hN b w⟩
   cases q:c1z.base.get? b with
   | none=>rfl
   | some o=>obtain ⟨o',z⟩:=x.ob b o q;rw [w1] at z;exact nos z
theorem Vh.fz (x:Vh c1z h1z c h) (hx:∀ a ∈ f0,∃ o,h1z.get? a = some o) (hf:∀ a ∈ f0,a ∉ c1z.mu):∀ a ∈ f0,a ∉ c.mu:=fun a ha q=>by
 rcases x.mu a q with w | ⟨_,w⟩
 ·exact hf a ha w
 ·obtain ⟨o,e⟩:=hx a ha;rw [e] at w;exact nos w.symm
theorem Room.go {n:Nat} (hR:Room c hm n A l s.heap) (hw:Wd c) (hs:c.base.StaysIn s.heap) (g:Sp N c s c' s'):Room c' hm n A l s'.heap:=by
 have hmu:∀ {b:Addr},c.base.get? b = none -> b ∉ c.mu:=fun {b} e q=>by
  obtain ⟨o,_,w,_⟩:=hw.km b q
  rw [e] at w;exact nos w
 refine ⟨hR.fr,fun env he=>?_,hR.depth,hR.units,?_⟩
 ·refine nn fun gN=>?_
  obtain ⟨h1,L,o,es,n,h2,h3,h4,h5⟩:=hR.ok env he
  obtain ⟨_,sl,w⟩:=g.kp L o (hmu h3) h4
  refine gN ?_
  refine ⟨h1,L,_,es,n,h2,?_,w,h5⟩
  cases q:c'.base.get? L with
  | none=>rfl
  | some o' =>
   rcases g.nb L o' q with ⟨o'',z⟩ | z | z | ⟨o'',vs,k,z1,z2,z3⟩
   ·rw [h3] at z;exact nos z
   ·rw [h4] at z;exact son z
   ·obtain ⟨o'',z1,z2⟩:=g.nn L z
    rw [h4] at z1;obtain rfl:=vAy z1;exact absurd h5 (z2 _ _)
   ·rw [h4] at z1;obtain rfl:=vAy z1;rw [h5] at z3;cases z3
 ·cases hm with
  | false=>exact hR.hm
  | true =>
   obtain ⟨y,o,vs,h1,h2,h3,h4⟩:=hR.hm
   refine ⟨y,o,vs,h1,(g.kp y o (fun q=>?_) h2).1 (JS h3),h3,h4⟩
   obtain ⟨o',T,w1,w2,w3⟩:=hw.km y q
   rw [hs y o' w1] at h2;obtain rfl:=vAy h2
   exact hw.kf y o' q w1 vs h3
end
theorem jZA {x:Option Obj} (h:qMX x = some fd):∃ o,x = some o /\ o.data = .func fd:=by
 rcases x with _ | ⟨a,b,d,e⟩
 ·exact nos h
 ·refine ⟨_,rfl,?_⟩
  cases d <;> first | exact nos h | exact congrArg _ (vAy h)
theorem jUT {x:Option Obj} {vs:Array Value} (h:qKC x = some vs):∃ o,x = some o /\ o.data = .fields vs:=by
 rcases x with _ | ⟨a,b,d,e⟩
 ·exact nos h
 ·refine ⟨_,rfl,?_⟩
  cases d <;> first | exact nos h | exact congrArg _ (vAy h)
theorem jTR {x:Option Value} {q:Str} (h:qIO x = some q):∃ t,x = some (.str q t):=by
 rcases x with _ | v <;> first | exact nos h | skip
 cases v <;> first | exact nos h | (obtain rfl:=vAy h;exact ⟨_,rfl⟩)
structure Pc (c:Cx) (P:Program) (i:Nat) (K:Frag) (C:Addr):Prop extends PageK c.base P i K C where
 mg:c.mg "Page" = some (.ref C)
structure PgC (K:Frag) (C:Addr):Prop where
 ga:findIn K (.ref C) "__getattribute__" = some (some (.builtin "object.__getattribute__"))
 gt:findIn K (.ref C) "__getattr__" = some none
 sa:findIn K (.ref C) "__setattr__" = some (some (.builtin "object.__setattr__"))
 hd:(clsIn K C).any (·.hasDict) = true
 po:plainOver K C = true
 ms:makesIn K C = true
 nk:findIn K (.ref C) "kept" = some none
 nw:findIn K (.ref C) "wide" = some none
 np:findIn K (.ref C) "past" = some none
 me:∀ x k,(x,k) ∈ pageMeths -> jZY K C x = true
theorem jz (h:qBM K C = true):PgC K C:=by
 unfold qBM at h
 simp only [vBR,vBc,List.all_cons,List.all_nil,and_true] at h
 obtain ⟨⟨⟨⟨⟨⟨⟨h1,h2⟩,h3⟩,h4⟩,h5⟩,h6⟩,h7,h8,h9⟩,h10⟩:=h
 exact ⟨h1,h2,h3,h4,h5,h6,h7,h8,h9,fun x k hx=>vBt.mp h10 (x,k) hx⟩
noncomputable def qED (p:Pg) (x:Str):Option D:=if x = "kept" then some p.k else if x = "wide" then some p.w else none
def YB (sg:Sg) (i:Nat) (x:Str) (Z:G):Tj:=atO Z i fun a=>(sg.pg a).bind fun p=>(qED p x).map fun d=>.ok (d,0)
theorem jy {v:Value} {a:Addr} (r:Rp X h v (.ob a) fp):v = .ref a /\ fp = []:=r.inv
theorem jLF {v:Value} (r:Rp X h v d fp):handedIn v = true:=by
 cases r <;> rfl
section
variable {n:Nat}
theorem PgA.inst {a:Addr} (x:PgA c.mg h mu a p dx pa) (hs:h.StaysIn h') (hC:c.mg "Page" = some (.ref C)) :
  ∃ ox od vk vw fk,InstAt h' a ox C (some od) /\ ox.dict = some dx /\ lookIn "kept" od = some (some vk) /\ lookIn "wide" od = some (some vw) /\ lookIn "past" od = some (some (.ref pa)) /\ 
   (∀ y:Str,y ≠ "kept" -> y ≠ "wide" -> y ≠ "past" -> lookIn y od = some none) /\ Rp c.mg h vk p.k fk /\ Rp c.mg h vw p.w [] /\ ∀ b ∈ fk,b ∉ mu:=by
 refine nn fun gN=>?_
 obtain ⟨C',n1,n2,n3,t1,t2,t3,vk,vw,n,k,vs,sl,fk,fp,h1,h2,h3,h4,h5,h6,h7,h8,h9,h10,h11⟩:=x
 rw [hC] at h1
 obtain rfl:C = C':=by injection h1 with h1;injection h1
 refine gN ?_
 refine ⟨_,_,vk,vw,fk,⟨hs _ _ h2,rfl,rfl,hs _ _ h3⟩,rfl,rfl,rfl,rfl,fun y y1 y2 y3=>?_,h5,h6,h8⟩
 have e:∀ z:Str,z ≠ y -> ∀ t,(Value.str z t).isStr y = false:=fun z hz t=>by
  exact beq_eq_false_iff_ne.mpr hz
 unfold lookIn pgD
 simp only [List.find?_cons,e _ (Ne.symm y1),e _ (Ne.symm y2),e _ (Ne.symm y3),List.find?_nil]
 rfl
theorem Jk {v:Str} (hw:Wd c) (pc:Pc c P ix K C) (hv:nm[j]? = some v):Den c hm n sc nm (.Attribute (.Name v np) x pos) [j] (YB c.sg j x):=by
 intro A l env Z vf s r Q E hsc hR hRd hf hQ hE
 ·refine nn fun gN=>?_
  obtain ⟨a,lv,hg,hf⟩:=Zk hf
  obtain ⟨p,hp,hf⟩:=vBG.mp hf
  obtain ⟨d,hd,rfl⟩:=vBD.mp hf
  obtain ⟨y,h1,h2,h3⟩:=hRd.var j _ lv hg
  refine gN ?_
  clear gN
  rw [hv] at h1;obtain rfl:=vAy h1
  refine nn fun gN=>?_
  obtain ⟨e1,e2⟩:=jy h3
  rw [e1] at h2
  obtain ⟨dx,pa,w1,w2,w3⟩:=hw.pg
  have pg:=jz pc.chk
  obtain ⟨ox,od,vk,vw,fk,I,_,l1,l2,l3,l4,r1,r2,r3⟩:=(w1 a p hp).inst hRd.bs.1 pc.mg
  have X:K.In s.heap:=fun b o e=>hRd.bs.1 b o (pc.kin b o e)
  refine gN ?_
  clear gN
  refine Attribute_Name_ (XS hRd.fn h2 ?_)
  unfold qED at hd
  have kp:∀ {v d fp},Rp c.mg c.base v d fp -> Rp c.mg s.heap v d fp:=fun r=>r.keep fun b o e _=>hRd.bs.1 b o e
  split at hd
  ·rename_i q;subst q
   obtain rfl:=vAy hd
   refine get_value X I pg.ga (findObj_own pg.hd pg.nk rfl l1) (jLF r1) (hQ vk _ 0 fk _ rfl (St.tok hRd.bs 1) (kp r1) (fun b hb=>.inr (.inr ⟨?_,r3 b hb⟩)) (Lv.zero _ _))
   obtain ⟨o,_,_,z,_⟩:=r1.fp_list b hb
   exact ⟨o,z⟩
  ·split at hd
   ·rename_i q;subst q
    obtain rfl:=vAy hd
    exact get_value X I pg.ga (findObj_own pg.hd pg.nw rfl l2) (jLF r2) (hQ vw _ 0 [] _ rfl (St.tok hRd.bs 1) (kp r2) Tr.nil (Lv.zero _ _))
   ·exact nos hd
def Me (c:Cx) (K:Frag) (C:Addr) (hm:Bool) (n:Nat) (x:Str) (F:Td):Prop :=
 ∃ f o fd,findIn K (.ref C) x = some (some (.ref f)) /\ typeIn K (.ref f) = some (.type "function") /\ c.base.get? f = some o /\ o.data = .func fd /\ OpN c hm n (fun vs=>call (.ref f) vs) F
def Zf {α:Type} (sg:Sg) (j:Nat) (g:D -> G -> Option (R α)) (Z:G):Option (R α):=atO Z j fun a=>if (sg.pg a).isSome then g (.ob a) Z else none
theorem OpN.self (ho:OpN c hm n op F) (a:Addr):OpN c hm n (fun vs=>op ([.ref a] ++ vs)) (fun ds=>F (.ob a :: ds)) :=
 fun A l L m s vs ds fp r Q E hR hn nb hb rs hf hQ hE=>ho A l L m s _ _ fp r Q E hR hn nb hb (.cons (.ob a) rs) hf hQ hE
theorem jCF {s:Shared} {a f:Addr} {Q:Value × List Value -> Shared -> Prop} (hw:Wd c) (pc:Pc c P ix K C) (hs:c.base.StaysIn s.heap) (hp:c.sg.pg a = some p)
  (h1:findIn K (.ref C) x = some (some (.ref f))) (h2:typeIn K (.ref f) = some (.type "function")) (hx:(x != "kept" && x != "wide" && x != "past") = true) (h:Q (.ref f,[.ref a]) s) :
  wpAny (model c.prog c.w) A (getMethod (.ref a) x pl) Q E s:=by
 refine nn fun gN=>?_
 simp only [vBR,bne_iff_ne,ne_eq] at hx
 obtain ⟨dx,pa,w1,_⟩:=hw.pg
 obtain ⟨ox,od,vk,vw,fk,I,_,l1,l2,l3,l4,r1,r2,r3⟩:=(w1 a p hp).inst hs pc.mg
 have pg:=jz pc.chk
 refine gN ?_
 clear gN
 exact method_fn (fun b o e=>hs b o (pc.kin b o e)) I pg.ga pg.gt h1 h2 (by show (lookIn x od).map _ = _;rw [l4 x hx.1.1 hx.1.2 hx.2];rfl) h
theorem jZP {v:Str} {g:G -> Option (R (List D))} (hw:Wd c) (pc:Pc c P ix K C) (hv:nm[j]? = some v) (hF:Me c K C hm n x F)
  (h1:DenA c hm n sc nm (e :: rest) o1 g) (hx:autoParam ((x != "kept" && x != "wide" && x != "past") = true) yK) (hs:autoParam (QC e) yN)
  (hmf:autoParam (Xi (.Name v np) x ap (e :: rest) pos) yM) :
  Den c hm n sc nm (.Call (.Attribute (.Name v np) x ap) (e :: rest) [] pos) o1 (Zf c.sg j fun d Z=>JR (g Z) fun ds=>F (d :: ds)):=by
 intro A l env Z vf s r Q E hsc hR hRd hf hQ hE
 ··refine nn fun gN=>?_
   obtain ⟨a,lv,hg,hf⟩:=Zk hf
   obtain ⟨hp,hf⟩:=ifs hf
   obtain ⟨p,hp⟩:=vBe.mp hp
   obtain ⟨y,z1,z2,z3⟩:=hRd.var j _ lv hg
   refine gN ?_
   clear gN
   rw [hv] at z1;obtain rfl:=vAy z1
   refine nn fun gN=>?_
   rw [(jy z3).1] at z2
   obtain ⟨f,o,fd,m1,m2,m3,m4,m5⟩:=hF
   refine gN ?_
   clear gN
   refine MethodCall_ (XS hRd.fn z2 (jCF hw pc hRd.bs.1 hp m1 m2 hx ?_)) (hmf env)
   exact callWith_meth (h₀:=c.base) m4 m3 (vCO (vM (m5.self a) h1 hsc hR hRd hf hQ hE) (fun vs s1z h=>⟨fun b o q=>h.1.bs.1 b o q,h.2⟩) fun _ _ x=>x) (hs _ _)
theorem XU {v:Str} (hw:Wd c) (pc:Pc c P ix K C) (hv:nm[j]? = some v) (hF:Me c K C hm n x F)
  (hx:autoParam ((x != "kept" && x != "wide" && x != "past") = true) yK)
  (hmf:autoParam (Xi (.Name v np) x ap [] pos) yM) :
  Den c hm n sc nm (.Call (.Attribute (.Name v np) x ap) [] [] pos) [] (Zf c.sg j fun d _=>F [d]):=by
 intro A l env Z vf s r Q E hsc hR hRd hf hQ hE
 ··refine nn fun gN=>?_
   obtain ⟨a,lv,hg,hf⟩:=Zk hf
   obtain ⟨hp,hf⟩:=ifs hf
   obtain ⟨p,hp⟩:=vBe.mp hp
   obtain ⟨y,z1,z2,z3⟩:=hRd.var j _ lv hg
   refine gN ?_
   clear gN
   rw [hv] at z1;obtain rfl:=vAy z1
   refine nn fun gN=>?_
   rw [(jy z3).1] at z2
   obtain ⟨f,o,fd,m1,m2,m3,m4,m5⟩:=hF
   obtain ⟨m,hn⟩:=hRd.ns
   refine gN ?_
   clear gN
   refine MethodCall_ (XS hRd.fn z2 (jCF hw pc hRd.bs.1 hp m1 m2 hx ?_)) (hmf env)
   refine callWith_meth0 m4 (hRd.bs.1 _ _ m3) (m5 A l env.locals m s [.ref a] [.ob a] [] r Q E hR hn hRd.nb hRd.bs (.cons (.ob a) .nil) hf (fun v d lv fp s' e st rp tr lvl=>hQ v d lv fp s' e st rp (fun b hb=>?_) lvl) hE)
   rcases tr b hb with q | q | q
   ·exact .inl q
   ·exact nomatch q
   ·exact .inr (.inr q)
theorem qBN {d:DefRec} (pc:Pc c P ix K C) (hx:(x,k0z) ∈ pageMeths) (hd:jFB P ix k0z = d):∃ f o pm code doc,findIn K (.ref C) x = some (some (.ref f)) /\ typeIn K (.ref f) = some (.type "function") /\ c.base.get? f = some o /\ 
  o.data = .func (qCD (jOW x) d pm code doc) /\ c.base.CodeRec code (jOW x):=by
 have h1:=pc.fd x k0z hx
 have h2:=(jz pc.chk).me x k0z hx
 subst hd
 refine nn fun gN=>?_
 obtain ⟨f,hf,h1⟩:=vBG.mp h1
 obtain ⟨fd,hl,h1⟩:=vBD.mp h1
 obtain ⟨g,hg,h2⟩:=vBG.mp (vBc.mp h2)
 obtain rfl:=vAy (hf.symm.trans hg)
 obtain ⟨ht,h2⟩:=ifs h2
 obtain ⟨fd',hl',h2⟩:=vBG.mp h2
 obtain rfl:=vAy (hl.symm.trans hl')
 obtain ⟨cc,hcc,h2⟩:=vBG.mp h2
 obtain ⟨vs,hv,h2⟩:=vBG.mp h2
 obtain ⟨t,hq⟩:=jTR h2
 obtain ⟨o,ho,hod⟩:=jZA hl
 obtain ⟨o2,ho2,hod2⟩:=jUT hv
 have hfd:fd = qCD (jOW x) (jFB P ix k0z) fd.pyModule fd.code fd.doc:=by
  exact (congrArg (fun z:FuncData=>({ z with doc:=fd.doc,pyModule:=fd.pyModule,code:=fd.code }:FuncData)) h1)
 rw [hfd] at hod
 exact gN ⟨f,o,_,_,_,zn hf,ht,pc.kin _ _ ho,hod,⟨cc,o2,vs,t,(vAy (vAy (zn hcc))),pc.kin _ _ ho2,hod2,hq⟩⟩
theorem jIQ {d:DefRec} {ps:List Str} {f:Th} (k:Nat) (ok:c.Ok) (pc:Pc c P ix K C) (hx:(x,k0z) ∈ pageMeths) (hd:jFB P ix k0z = d)
  (hB:kn c hm n d.scope nm d.body f)
  (hbind:∀ q pm code doc (vals:List Value),vals.length = ps.length -> bindArgs (qCD q d pm code doc) ⟨vals,[]⟩ = pure (ps.zip vals))
  (hok:autoParam (jBO d.scope ps nm = true) yK) :
  Me c K C hm (n + 1) x (fnF ps.length k f):=by
 refine nn fun gN=>?_
 obtain ⟨f,o,pm,code,doc,g1,g2,g3,g4,g5⟩:=qBN pc hx hd
 refine gN ?_
 clear gN
 exact ⟨f,o,_,g1,g2,g3,g4,fun A l Lc mc s vs ds fp r Q E hR hns hnb hgd hrs hf hQ hE =>
  jSS k ok g3 g4 g5 ⟨rfl,rfl,rfl,rfl,rfl⟩ hB (hbind _ _ _ _ vs) hok hR hgd.1 (.inl hgd.2) hrs hf hQ hE⟩
end
section
variable {s:Shared} {n:Nat}
structure Fam (c0z c:Cx):Prop where
 cx:∃ b mu sg,c = { c0z with base:=b,mu:=mu,sg:=sg }
 st:c0z.base.StaysIn c.base
 mu:∀ b ∈ c.mu,c0z.base.get? b = none
 wd:Wd c
theorem Fam.go (f:Fam c0z c) (g:Sp N c s c' s'):Fam c0z c':=by
 obtain ⟨b,mu,sg,e⟩:=f.cx
 obtain ⟨b',mu',sg',e'⟩:=g.cx
 refine ⟨⟨b',mu',sg',by rw [e',e]⟩,fun a o q=>g.kb a o (f.st a o q) fun z=>?_,fun a ha=>?_,g.wd⟩
 ·rw [f.mu a z] at q;exact nos q
 ·rcases g.mu a ha with z | ⟨z,_⟩
  ·exact f.mu a z
  ·cases q:c0z.base.get? a with
   | none=>rfl
   | some o=>rw [f.st a o q] at z;exact nos z.symm
theorem Fam.ok (f:Fam c0z c) (ok:c0z.Ok):c.Ok:=by
 obtain ⟨⟨b,mu,sg,rfl⟩,st,_,_⟩:=f
 exact ⟨ok.g.keeps st,ok.b.keeps st,ok.nl.keeps st⟩
theorem Fam.bi (f:Fam c0z c) (h:Bi c0z):Bi c:=by
 obtain ⟨⟨b,mu,sg,rfl⟩,_,_,_⟩:=f
 obtain ⟨h1,h2,h3,h4,h5,h6,h7,h8,h9,h10,h11,h12,h13⟩:=h
 exact ⟨h1,h2,h3,h4,h5,h6,h7,h8,h9,h10,h11,h12,h13⟩
theorem Fam.xs (f:Fam c0z c) (h:Xs c0z):Xs c:=by
 obtain ⟨⟨b,mu,sg,rfl⟩,st,_,_⟩:=f
 obtain ⟨⟨K,h1,h2⟩,h3⟩:=h
 refine ⟨⟨K,fun a o e=>st a o (h1 a o e),fun k hk=>?_⟩,h3⟩
 refine nn fun gN=>?_
 obtain ⟨C,e1,e2,e3,e4⟩:=h2 k hk
 refine gN ?_
 clear gN
 exact ⟨C,e1,e2,e3.keeps st,e4⟩
theorem Fam.fn (f:Fam c0z c) {d:DefRec} (h:QZ c0z d):QZ c d:=by
 refine nn fun gN=>?_
 obtain ⟨⟨b,mu,sg,rfl⟩,st,_,_⟩:=f
 obtain ⟨a,o,pm,code,doc,h1,h2,h3,h4⟩:=h
 refine gN ?_
 clear gN
 exact ⟨a,o,pm,code,doc,h1,st a o h2,h3,h4.keeps st⟩
theorem Fam.pc (f:Fam c0z c) (h:Pc c0z P ix K C):Pc c P ix K C:=by
 refine nn fun gN=>?_
 obtain ⟨⟨b,mu,sg,rfl⟩,st,_,_⟩:=f
 refine gN ?_
 clear gN
 exact ⟨⟨fun a o e=>st a o (h.kin a o e),h.ns,h.chk,h.fd⟩,h.mg⟩
theorem Fam.md (f:Fam c0z c):model c.prog c.w = model c0z.prog c0z.w:=by obtain ⟨⟨b,mu,sg,rfl⟩,_,_,_⟩:=f;rfl
theorem Fam.mgE (f:Fam c0z c):c.mg = c0z.mg:=by obtain ⟨⟨b,mu,sg,rfl⟩,_,_,_⟩:=f;rfl
theorem PgA.keeps {a:Addr} (x:PgA mg h mu a p dx pa) (hs:h.StaysIn h'):PgA mg h' mu a p dx pa:=by
 refine nn fun gN=>?_
 obtain ⟨C,n1,n2,n3,t1,t2,t3,vk,vw,n,k,vs,sl,fk,fp,h1,h2,h3,h4,h5,h6,h7,h8,h9,h10,h11⟩:=x
 refine gN ?_
 clear gN
 exact ⟨C,n1,n2,n3,t1,t2,t3,vk,vw,n,k,vs,sl,fk,fp,h1,hs _ _ h2,hs _ _ h3,hs _ _ h4,h5.keep fun b o e _=>hs b o e,h6.keep fun b o e _=>hs b o e,h7.keep fun b o e _=>hs b o e,h8,h9,h10,h11⟩
theorem HdA.keeps {xs:List D} (x:HdA mg h mu H xs) (hs:h.StaysIn h'):HdA mg h' mu H xs:=by
 refine nn fun gN=>?_
 obtain ⟨k,vs,sl,fp,h1,h2,h3,h4⟩:=x
 refine gN ?_
 clear gN
 exact ⟨k,vs,sl,fp,hs _ _ h1,h2.keep fun b o e _=>hs b o e,h3,h4⟩
theorem Wd.keeps (hw:Wd c) (hs:c.base.StaysIn b'):Wd { c with base:=b' }:=by
 obtain ⟨dx,pa,w1,w2,w3⟩:=hw.pg
 refine ⟨fun b hb=>?_,fun b o hb e vs=>?_,⟨dx,pa,fun a p e=>(w1 a p e).keeps hs,w2,w3⟩,fun H xs e=>(hw.hd H xs e).keeps hs⟩
 ·refine nn fun gN=>?_
  obtain ⟨o,T,z1,z2,z3⟩:=hw.km b hb
  refine gN ?_
  clear gN
  exact ⟨o,T,hs b o z1,z2,z3⟩
 ·obtain ⟨o',T,z1,z2,z3⟩:=hw.km b hb
  have e:b'.get? b = some o:=e
  rw [hs b o' z1] at e;obtain rfl:=vAy e
  exact hw.kf b o' hb z1 vs
theorem qJY (hg:Gd c s) (hw:Wd c) (hl:∀ b ∈ fp,FpL s.heap b) (hf:∀ b ∈ fp,b ∉ c.mu) :
  ∃ c',Sp (fun b=>b ∈ fp /\ c.base.get? b = none) c s c' s /\ c'.sg = c.sg /\ ∀ b ∈ fp,Fz c' b:=by
 have hst:c.base.StaysIn (cut (fun b=>c.base.get? b ≠ none \/ b ∈ fp) s.heap):=fun b o e=>by
  rw [Qq (.inl (by rw [e];exact fun q=>nomatch q))];exact hg.1 b o e
 refine ⟨{ c with base:=cut (fun b=>c.base.get? b ≠ none \/ b ∈ fp) s.heap },⟨⟨_,_,rfl⟩,⟨_,_,_,rfl⟩,KpP.refl _ _,fun b o e=>?_,fun b o e=>⟨o,hst b o e⟩,fun b o e _=>hst b o e,fun b h=>.inl h,fun b h=>h,fun b hb=>?_,hw.keeps hst,fun b o e=>(XK e).2,hg.2⟩,rfl,fun b hb=>?_⟩
 ·obtain ⟨q | q,w⟩:=XK e
  ·exact .inl (ne_none.mp q)
  ·cases z:c.base.get? b with
   | none=>exact .inr (.inr (.inl ⟨q,rfl⟩))
   | some o'=>exact .inl ⟨o',rfl⟩
 ·obtain ⟨o,vs,k,z1,z2,z3⟩:=hl b hb.1
  exact ⟨o,z1,JK z3⟩
 ·refine nn fun gN=>?_
  obtain ⟨o,vs,k,z1,z2,z3⟩:=hl b hb
  refine gN ?_
  exact ⟨⟨o,by rw [Qq (.inr hb)];exact z1⟩,hf b hb⟩
end
structure Fs (c1z:Cx) (sE:Shared) (hm:Bool) (n:Nat) (A:Around) (l:List Env) (f0:List Addr) (env:Env) (nm:List Str) (c:Cx) (h0z:Heap) (Z:G) (vf:Tb) (s:Shared):Prop where
 iv:Iv c h0z f0 env nm Z vf s
 vh:Vh c1z sE.heap c h0z
 rm:Room c hm n A l s.heap
 w1:Wd c1z
 s1:c1z.base.StaysIn sE.heap
 sm:∃ h tk,s = { sE with heap:=h,toks:=tk }
 fz:∀ a ∈ f0,Fz c1z a
section
variable {n:Nat} {s:Shared}
theorem jKX {s2z s3z:Shared} (x:∃ h tk,s2z = { s1z with heap:=h,toks:=tk }) (y:∃ h tk,s3z = { s2z with heap:=h,toks:=tk }):∃ h tk,s3z = { s1z with heap:=h,toks:=tk }:=by
 obtain ⟨h,tk,e⟩:=x
 obtain ⟨h',tk',e'⟩:=y
 exact ⟨h',tk',by rw [e',e]⟩
theorem Fs.wd (x:Fs c1z sE hm n A l f0 env nm c h0z Z vf s):Wd c:=x.vh.wd
theorem Fs.mono (x:Fs c1z sE hm n A l f0 env nm c h0z Z vf s) (hn:n' <= n):Fs c1z sE hm n' A l f0 env nm c h0z Z vf s:=⟨x.iv,x.vh,x.rm.mono hn,x.w1,x.s1,x.sm,x.fz⟩
theorem Fs.stp (x:Fs c1z sE hm n A l f0 env nm c h0z Z vf s) (p:Stp c h0z f0 env nm Z vf s Z' vf' s'):Fs c1z sE hm n A l f0 env nm c h0z Z' vf' s' :=
 ⟨p.iv,x.vh,p.room x.iv x.rm,x.w1,x.s1,jKX x.sm p.same,x.fz⟩
theorem Fs.st (x:Fs c1z sE hm n A l f0 env nm c h0z Z vf s) (p:St c env.locals s s'):Fs c1z sE hm n A l f0 env nm c h0z Z vf s':=x.stp (x.iv.step p)
theorem Fs.fzc (x:Fs c1z sE hm n A l f0 env nm c h0z Z vf s):∀ a ∈ f0,Fz c a:=fun a ha=>by
 obtain ⟨⟨o,e⟩,hm⟩:=x.fz a ha
 refine ⟨x.vh.ob a o e,fun q=>?_⟩
 rcases x.vh.mu a q with w | ⟨w,_⟩
 ·exact hm w
 ·rw [e] at w;exact nos w.symm
theorem Vh.gone' (x:Vh c1z h1z c h0z) (hw:Wd c1z) {a:Addr} (hb:c.base.get? a = none) (q:h0z.get? a = none):h1z.get? a = none:=by
 cases z:h1z.get? a with
 | none=>rfl
 | some o =>
  by_cases hmu:a ∈ c1z.mu
  ·obtain ⟨o',T,w,_⟩:=hw.km a hmu
   obtain ⟨o'',w'⟩:=x.ob a o' w
   rw [hb] at w';exact nos w'
  ·obtain ⟨_,sl,w⟩:=x.kp a o hmu z
   rw [q] at w;exact nos w
theorem Fs.young (x:Fs c1z sE hm n A l f0 env nm c h0z Z vf s) {a:Addr} (ha:a ∈ (vf i).2) (hb:c.base.get? a = none):sE.heap.get? a = none:=by
 rcases x.iv.org i a ha with q | q | q
 ·exact x.vh.gone' x.w1 hb q
 ·obtain ⟨⟨o,e⟩,_⟩:=x.fzc a q;rw [hb] at e;exact nos e
 ·obtain ⟨⟨o,e⟩,_⟩:=q;rw [hb] at e;exact nos e
theorem Fs.notMu (x:Fs c1z sE hm n A l f0 env nm c h0z Z vf s) {a:Addr} (ha:a ∈ (vf i).2):a ∉ c.mu:=fun q=>by
 rcases x.iv.org i a ha with z | z | z
 ·obtain ⟨o,_,w,_⟩:=x.wd.km a q
  rw [x.iv.bh a o w] at z;exact nos z.symm
 ·exact (x.fzc a z).2 q
 ·exact z.2 q
theorem Fs.go (x:Fs c1z sE hm n A l f0 env nm c h0z Z vf s) (g:Sp N c s c' s') (hN:∀ b,N b -> ¬ Mut env Z vf b) (hNm:∀ i a,a ∈ (vf i).2 -> N a -> a ∉ c'.mu) (h1:∀ b,N b -> sE.heap.get? b = none) :
  Fs c1z sE hm n A l f0 env nm c' (jVL h0z c' s'.heap) Z vf s' :=
 ⟨x.iv.go x.wd (fun a ha=>(x.fzc a ha).2) hN hNm g,x.vh.go x.w1 x.s1 h1 x.iv g,x.rm.go x.wd x.iv.rd.bs.1 g,x.w1,x.s1,jKX x.sm g.same,x.fz⟩
end
section
variable {n:Nat} {s:Shared}
theorem jVZ (iv:Iv c h0z f0 env nm Z vf s) (tr:Tr c s.heap vf occ fp):∀ b ∈ fp,¬ Mut env (JX occ Z) vf b:=by
 obtain ⟨m,hn⟩:=iv.rd.ns
 intro b hb hM
 rcases hM with rfl | ⟨y,hy⟩ | ⟨j,d,lv,e3,e4⟩
 ·rcases tr _ hb with q | ⟨j,_,q⟩ | q
  ·obtain ⟨o',_,_,z,_⟩:=hn;rw [q] at z;exact nos z
  ·obtain ⟨o',vs,k,z1,_,z3⟩:=iv.al j _ q
   exact zB hn z1 (JK z3) rfl
  ·exact q.1.elim fun o' e'=>by (rw [iv.rd.nb] at e';exact nos e')
 ·obtain ⟨_,v,o',z1,z2⟩:=iv.ce y b hy
  rcases tr _ hb with q | ⟨j,_,q⟩ | q
  ·rw [q] at z1;exact nos z1
  ·obtain ⟨o'',vs,k,y1,_,y3⟩:=iv.al j _ q
   rw [z1] at y1;obtain rfl:=vAy y1;rw [z2] at y3;cases y3
  ·exact q.1.elim fun o' e'=>by (have e':=iv.bh b o' e';rw [(iv.ce y b hy).1] at e';exact nos e')
 ·obtain ⟨lv',w1,w2,w3⟩:=jF e3
  have hbj:b ∈ (vf j).2:=by
   rcases e4 with ⟨_,t,q⟩ | ⟨_,q⟩
   ·rw [q];exact vBA ..
   ·exact q
  rcases tr _ hb with q | ⟨j',hj',q⟩ | q
  ·obtain ⟨o',_,_,z,_⟩:=iv.al j b hbj;rw [q] at z;exact nos z
  ·have hjj:j' ≠ j:=fun z=>by
    obtain rfl:=z.symm
    rcases e4 with ⟨y,_⟩ | ⟨y,_⟩ <;> (rw [(w3 hj')] at y;exact absurd y (by decide))
   rcases e4 with ⟨y,t,z⟩ | ⟨y,z⟩
   ·exact (iv.own1 j d lv' w2 (vAz y w1) b t z).2.2.2 j' hjj q
   ·exact ((iv.own2 j d lv' w2 (vAz y w1)).1 b z).2.2 j' hjj q
  ·obtain ⟨o',e'⟩:=q.1
   have e':=iv.bh b o' e'
   rcases e4 with ⟨y,t,z⟩ | ⟨y,z⟩
   ·rw [(iv.own1 j d lv' w2 (vAz y w1) b t z).1] at e';exact nos e'
   ·rw [((iv.own2 j d lv' w2 (vAz y w1)).1 b z).1] at e';exact nos e'
theorem Fs.trYoung (x:Fs c1z sE hm n A l f0 env nm c h0z Z vf s) (tr:Tr c s.heap vf occ fp):∀ b ∈ fp,c.base.get? b = none -> sE.heap.get? b = none:=fun b hb e=>by
 rcases tr b hb with q | ⟨j,_,q⟩ | q
 ·exact (x.vh.step x.iv.kb).gone x.w1 x.iv.rd.bs.1 q
 ·exact x.young q e
 ·obtain ⟨⟨o,z⟩,_⟩:=q;rw [e] at z;exact nos z
theorem Fs.trMu (x:Fs c1z sE hm n A l f0 env nm c h0z Z vf s) (tr:Tr c s.heap vf occ fp):∀ b ∈ fp,b ∉ c.mu:=fun b hb z=>by
 rcases tr b hb with q | ⟨j,_,q⟩ | q
 ·obtain ⟨o,_,w,_⟩:=x.wd.km b z
  rw [x.iv.rd.bs.1 b o w] at q;exact son q
 ·exact x.notMu q z
 ·exact q.2 z
theorem Vh.sp (hw1z:Wd c1z) (hs1z:c1z.base.StaysIn h1z) (hN:∀ b,N b -> h1z.get? b = none) (hg:Gd c s) (x:Vh c1z h1z c s.heap) (g:Sp N c s c' s'):Vh c1z h1z c' s'.heap:=by
 obtain ⟨b,mu,sg,ex⟩:=x.cx
 obtain ⟨b',mu',sg',ey⟩:=g.cx
 have hmu:∀ b o,h1z.get? b = some o -> b ∉ c1z.mu -> b ∉ c.mu:=fun b o e hb q=>by
  rcases x.mu b q with w | ⟨_,w⟩
  ·exact hb w
  ·rw [e] at w;exact nos w.symm
 refine ⟨⟨b',mu',sg',by rw [ey,ex]⟩,x.kp.trans g.kp (fun b o e hb=>hmu b o e hb),fun b o e=>?_,fun b o e=>?_,fun b o e hb=>g.kb b o (x.kb b o e hb) (hmu b o (hs1z b o e) hb),fun b hb=>?_,fun b hb=>g.mo b (x.mo b hb),g.wd⟩
 ·rcases g.nb b o e with ⟨o',w⟩ | w | w | ⟨o',vs,k,w1,w2,w3⟩
  ·exact x.nb b o' w
  ·exact .inr (.inl (x.gone hw1z hg.1 w))
  ·exact .inr (.inl (hN b w))
  ·cases q:h1z.get? b with
   | none=>exact .inr (.inl rfl)
   | some o1z =>
    refine .inr (.inr ?_)
    have hb:b ∉ c1z.mu:=fun z=>by
     obtain ⟨o'',T,z1,z2,z3⟩:=(x.wd).km b (x.mo b z)
     rw [hg.1 b _ z1] at w1;obtain rfl:=vAy w1
     rw [z2] at w2;injection w2 with w2;exact z3 w2
    obtain ⟨_,sl,z⟩:=x.kp b o1z hb q
    rw [z] at w1;obtain rfl:=vAy w1
    exact ⟨o1z,vs,k,q,w2,w3⟩
 ·obtain ⟨o',w⟩:=x.ob b o e;exact g.ob b o' w
 ·have hb1:c.base.get? b = none -> c1z.base.get? b = none:=fun w1=>by
   cases q:c1z.base.get? b with
   | none=>rfl
   | some o=>obtain ⟨o',z⟩:=x.ob b o q;rw [w1] at z;exact nos z
  rcases g.mu b hb with w | ⟨w1,w | w⟩
  ·exact x.mu b w
  ·exact .inr ⟨hb1 w1,x.gone hw1z hg.1 w⟩
  ·exact .inr ⟨hb1 w1,hN b w⟩
abbrev No:Addr -> Prop:=fun _=>False
theorem Vh.out (x:Vh c s.heap c' s'.heap) (hg:Gd c' s') (hs:∃ h tk,s' = { s with heap:=h,toks:=tk }):Sp No c s c' s' :=
 ⟨hs,x.cx,x.kp,fun b o e=>(x.nb b o e).imp id fun q=>q.imp id .inr,x.ob,x.kb,fun b hb=>(x.mu b hb).imp id fun q=>⟨q.1,.inl q.2⟩,x.mo,fun _ h=>h.elim,x.wd,hg⟩
def OpT (c0z:Cx) (hm:Bool) (n:Nat) (op:List Value -> Sem Value) (U:Sg -> List D -> Option (D × Sg)):Prop :=
 ∀ (c:Cx) (A:Around) (l:List Env) (s:Shared) (vs:List Value) (ds:List D) (fp:List Addr) (d:D) (W':Sg) (Q:Ta) (E:Ta),
  Fam c0z c -> Room c hm n A l s.heap -> Gd c s -> Rps c.mg s.heap vs ds fp -> (∀ a ∈ fp,Fz c a) -> U c.sg ds = some (d,W') -> 
  (∀ c' v fp' s',Sp No c s c' s' -> c'.sg = W' -> Rp c'.mg s'.heap v d fp' -> (∀ a ∈ fp',Fz c' a) -> Q v s') -> wpAny (model c0z.prog c0z.w) A (op vs) Q E s
theorem Fs.ret {v:Value} (x:Fs c1z sE hm n A l f0 env nm c h0z Z vf s) (p:RetP c h0z f0 env Z vf s d lv v s') :
  ∃ c' fp,Sp No c1z sE c' s' /\ c'.sg = c.sg /\ Rp c'.mg s'.heap v d fp /\ ∀ a ∈ fp,Fz c' a:=by
 refine nn fun gN=>?_
 obtain ⟨q1,q2,q3,q4,_,fp,q5,q6,q7⟩:=p
 have hmu:∀ b ∈ fp,b ∉ c.mu:=fun b hb z=>by
  rcases q6 b hb with w | w | w
  ·obtain ⟨o,_,e,_⟩:=x.wd.km b z
   rw [x.iv.bh b o e] at w;exact nos w.symm
  ·exact (x.fzc b w).2 z
  ·exact w.2 z
 obtain ⟨c',g,e,hz⟩:=qJY q4 x.wd (fun b hb=>q5.fp_list b hb) hmu
 refine gN ?_
 refine ⟨c',fp,(Vh.sp x.w1 x.s1 (fun b hb=>?_) q4 (x.vh.step q3:Vh c1z sE.heap c s'.heap) g).out g.gd ?_,e,(by obtain ⟨_,_,_,z⟩:=g.cx;rw [z]:c'.mg = c.mg) ▸ q5,hz⟩
 ·rcases q6 b hb.1 with w | w | w
  ·exact x.vh.gone' x.w1 hb.2 w
  ·obtain ⟨⟨o,z⟩,_⟩:=x.fzc b w;rw [hb.2] at z;exact nos z
  ·obtain ⟨⟨o,z⟩,_⟩:=w;rw [hb.2] at z;exact nos z
 ·exact jKX x.sm q1
end
open Builtin Builtin.ObjectAttr
theorem jWN {w:World} {x:Addr} {s:Shared} {od od':Obj} {v:Value} {es:Array DictEntry} {n:Nat}
  (X:K.In s.heap) (I:InstAt s.heap x ox C (some od)) (hd:ox.dict = some dx) (pg:PgC K C) (ht:takerIn K C name = some none) (hl:(lookIn name od).isSome = true)
  (e:Obj.putName name (PyData.keyHash w.params name) (.str name (s.toks + 1)) v od = od') (e':od'.data = .dict es n) (hz:es.size <= 1000)
  (h:∀ h',Heap.SameBut dx s.heap h' -> h'.get? dx = some od' -> Q () { s with heap:=h',toks:=s.toks + 2 }) :
  wpAny (model prog w) A (setAttr (.ref x) name v) Q E s:=by
 refine set_plain X I pg.sa (osa_open (s:={ s with toks:=s.toks + 1 }) X I pg.po ht fun b=>?_)
 refine nn fun gN=>?_
 obtain ⟨cd,hc,hd'⟩:=any_some pg.hd
 have hcl:=I.cls
 have D:s.heap.get? dx = some od:=by have:=I.dict;rw [hd] at this;exact this
 obtain ⟨oc,odi,oda,osl⟩:=ox
 refine gN ?_
 subst hcl hd
 have hfr:od'.isFreed = false:=by obtain ⟨_,_,dd,_⟩:=od';cases e';rfl
 have D':(s.heap.update dx (Obj.putName name (PyData.keyHash w.params name) (.str name (s.toks + 1)) v)).get? dx = some od':=by
  rw [<- e] at hfr ⊢;exact vBf _ D hfr
 refine vBE (vBM (vBE (vBE (wpAny_loadPart I.at_ (vBE (Looks.here (s:={ s with toks:=s.toks + 1 }) (looks_clsIn X hc) ?_))))))
 rw [hd']
 refine vBM (a:=some dx) (vBE (vBM (vBE ?_)))
 unfold nsSet
 refine vBE (vBE (wpAny_askSetting (vBM (vBE (wpAny_mkText (vBE (wpAny_loadPart D ?_)))))))
 unfold lookIn at hl
 split at hl
 ·rename_i es0 n0 q
  rw [q]
  dsimp only
  have c:(!es0.any (·.key.isStr name) && es0.any (·.refKey)) = false:=by
   rw [<- Array.any_toList,<- Array.any_toList]
   split at hl
   ·rename_i en he
    rw [List.any_eq_true.mpr ⟨en,List.mem_of_find?_eq_some he,List.find?_some he⟩];rfl
   ·split at hl
    ·cases hl
    ·rename_i z;rw [Bool.not_eq_true] at z;rw [z,vCq]
  rw [aRefKeyMayBeTheName_at,c]
  refine wpAny_updatePart D ?_
  refine vBE (wpAny_lookBehind D' (by rw [e'];exact pastItsLine_dict (by rw [sizeLine_eq];exact vAz hz (by decide))) ?_)
  exact vBM (h _ (vBo ..) D')
 ·cases hl
section
variable {s:Shared}
theorem PgA.but {a m:Addr} (x:PgA mg h mu a p dx pa) (hk:∀ b o,b ≠ m -> h.get? b = some o -> h'.get? b = some o) (hm:m ∈ mu)
  (hT:∃ o T,h.get? m = some o /\ o.cls = .type T /\ T ≠ "tuple") (h1:dx ≠ m) (h2:pa ≠ m):PgA mg h' mu a p dx pa:=by
 refine nn fun gN=>?_
 obtain ⟨C,n1,n2,n3,t1,t2,t3,vk,vw,n,k,vs,sl,fk,fp,e1,e2,e3,e4,e5,e6,e7,e8,e9,e10,e11⟩:=x
 obtain ⟨om,T,q1,q2,q3⟩:=hT
 have ha:a ≠ m:=fun z=>by
  subst z;rw [q1] at e2;obtain rfl:=vAy e2;cases q2
 have kt:∀ b o,b = m -> h.get? b = some o -> ∃ T,o.cls = .type T /\ T ≠ "tuple":=fun b o z e=>by
  obtain rfl:=z.symm;rw [q1] at e;obtain rfl:=vAy e;exact ⟨T,q2,q3⟩
 have kk:∀ b o,¬ b = m -> h.get? b = some o -> JW o -> h'.get? b = some o:=fun b o z e _=>hk b o z e
 refine gN ?_
 clear gN
 exact ⟨C,n1,n2,n3,t1,t2,t3,vk,vw,n,k,vs,sl,fk,fp,e1,hk _ _ ha e2,hk _ _ h1 e3,hk _ _ h2 e4,
  e5.keepOn (W:=(· = m)) kk kt (fun b hb z=>e8 b hb (z ▸ hm)),e6.keepOn (W:=(· = m)) kk kt (fun b hb=>nomatch hb),e7.keepOn (W:=(· = m)) kk kt (fun b hb z=>e9 b hb (z ▸ hm)),e8,e9,e10,e11⟩
theorem HdA.but {m:Addr} {xs:List D} (x:HdA mg h mu H xs) (hk:∀ b o,b ≠ m -> h.get? b = some o -> h'.get? b = some o) (hm:m ∈ mu)
  (hT:∃ o T,h.get? m = some o /\ o.cls = .type T /\ T ≠ "tuple") (h1:H ≠ m):HdA mg h' mu H xs:=by
 refine nn fun gN=>?_
 obtain ⟨k,vs,sl,fp,e1,e2,e3,e4⟩:=x
 obtain ⟨om,T,q1,q2,q3⟩:=hT
 have kt:∀ b o,b = m -> h.get? b = some o -> ∃ T,o.cls = .type T /\ T ≠ "tuple":=fun b o z e=>by
  subst z;rw [q1] at e;obtain rfl:=vAy e;exact ⟨T,q2,q3⟩
 refine gN ?_
 clear gN
 exact ⟨k,vs,sl,fp,hk _ _ h1 e1,e2.keepOn (W:=(· = m)) (fun b o z e _=>hk b o z e) kt (fun b hb z=>e3 b hb (z ▸ hm)),e3,e4⟩
theorem PgA.kinds {a:Addr} (x:PgA mg h mu a p dx pa):(∃ o,h.get? dx = some o /\ o.cls = .type "dict") /\ ∃ o,h.get? pa = some o /\ o.cls = .type "list":=by
 refine nn fun gN=>?_
 obtain ⟨C,n1,n2,n3,t1,t2,t3,vk,vw,n,k,vs,sl,fk,fp,e1,e2,e3,e4,_⟩:=x
 refine gN ?_
 clear gN
 exact ⟨⟨_,e3,rfl⟩,⟨_,e4,rfl⟩⟩
theorem jIU {a:Addr} (x:∃ o,h.get? a = some o /\ o.cls = .type "dict") (y:∃ o,h.get? b = some o /\ o.cls = .type "list"):a ≠ b:=fun q=>by
 subst q
 obtain ⟨o,h1,h2⟩:=x
 obtain ⟨o',h3,h4⟩:=y
 rw [h1] at h3;obtain rfl:=vAy h3
 rw [h2] at h4;exact absurd h4 (by decide)
open Classical in
noncomputable def XH (Wz:Sg) (a:Addr) (p:Pg):Sg:={ Wz with pg:=fun b=>if b = a then some p else Wz.pg b }
open Classical in
noncomputable def Xr (Wz:Sg) (a:Addr) (xs:List D):Sg:={ Wz with hd:=fun b=>if b = a then some xs else Wz.hd b }
theorem jd (Wz:Sg) (a:Addr) (p:Pg):(XH Wz a p).pg a = some p:=if_pos rfl
theorem xh (Wz:Sg) (a:Addr) (p:List D):(Xr Wz a p).hd a = some p:=if_pos rfl
theorem Wd.setPage (hw:Wd c) {a:Addr} (ha:c.sg.pg a = some p):∃ dx pa,PgA c.mg c.base c.mu a p dx pa /\ 
  ∀ m b' p',(m = dx \/ m = pa) -> (∀ b o,b ≠ m -> c.base.get? b = some o -> b'.get? b = some o) -> (∃ o T,b'.get? m = some o /\ o.cls = .type T /\ T ≠ "tuple" /\ ∀ vs,o.data ≠ .fields vs) -> (∀ b o,b'.get? b = some o -> ∃ o',c.base.get? b = some o') -> 
   PgA c.mg b' c.mu a p' dx pa -> Wd { c with base:=b',sg:=XH c.sg a p' }:=by
 refine nn fun gN=>?_
 obtain ⟨dx,pa,w1,w2,w3⟩:=hw.pg
 refine gN ?_
 refine ⟨dx a,pa a,w1 a p ha,fun m b' p' hm hk hmo hb hp=>?_⟩
 have hmm:m ∈ c.mu:=by
  refine nn fun gN=>?_
  obtain ⟨C,n1,n2,n3,t1,t2,t3,vk,vw,n,k,vs,sl,fk,fp,e1,e2,e3,e4,e5,e6,e7,e8,e9,e10,e11⟩:=w1 a p ha
  refine gN ?_
  rcases hm with rfl | rfl
  ·exact e10
  ·exact e11
 have old:∀ a' p1z,(XH c.sg a p').pg a' = some p1z -> (a' = a /\ p1z = p') \/ (a' ≠ a /\ c.sg.pg a' = some p1z):=fun a' p1z e=>by
  by_cases q:a' = a
  ·obtain rfl:=q.symm;rw [jd] at e;exact .inl ⟨rfl,(vAy e).symm⟩
  ·refine .inr ⟨q,?_⟩
   unfold XH at e;dsimp only at e;rw [if_neg q] at e;exact e
 have oldx:∀ a' p1z,(XH c.sg a p').pg a' = some p1z -> ∃ p2z,c.sg.pg a' = some p2z:=fun a' p1z e=>by
  rcases old a' p1z e with ⟨rfl,_⟩ | ⟨_,q⟩
  ·exact ⟨p,ha⟩
  ·exact ⟨_,q⟩
 refine ⟨fun b hb'=>?_,fun b o hb' e vs=>?_,⟨dx,pa,fun a' p1z e=>?_,fun a1z a2z p1z p2z e1 e2=>?_,fun a' p1z H xs e1 e2=>?_⟩,fun H xs e=>?_⟩
 ·by_cases q:b = m
  ·obtain rfl:=q.symm;obtain ⟨o,T,z1,z2,z3,_⟩:=hmo;exact ⟨o,T,z1,z2,z3⟩
  ·obtain ⟨o,T,z1,z2,z3⟩:=hw.km b hb';exact ⟨o,T,hk b o q z1,z2,z3⟩
 ·have e:b'.get? b = some o:=e
  by_cases q:b = m
  ·subst q;obtain ⟨o',T,z1,_,_,z4⟩:=hmo
   rw [z1] at e;obtain rfl:=vAy e;exact z4 vs
  ·obtain ⟨o',T,z1,_⟩:=hw.km b hb'
   rw [hk b o' q z1] at e;obtain rfl:=vAy e;exact hw.kf b o' hb' z1 vs
 ·rcases old a' p1z e with ⟨rfl,rfl⟩ | ⟨q,e⟩
  ·exact hp
  ·refine (w1 a' p1z e).but hk hmm (hw.km m hmm:∃ o T,c.base.get? m = some o /\ o.cls = .type T /\ T ≠ "tuple") ?_ ?_
   ·rcases hm with rfl | rfl
    ·exact (w2 a' a p1z p e ha q).1
    ·exact jIU ((w1 a' p1z e).kinds).1 ((w1 a p ha).kinds).2
   ·rcases hm with rfl | rfl
    ·exact (jIU ((w1 a p ha).kinds).1 ((w1 a' p1z e).kinds).2).symm
    ·exact (w2 a' a p1z p e ha q).2
 ·obtain ⟨p3z,e3⟩:=oldx a1z p1z e1
  obtain ⟨p4z,e4⟩:=oldx a2z p2z e2
  exact w2 a1z a2z p3z p4z e3 e4
 ·obtain ⟨p3z,e3⟩:=oldx a' p1z e1
  exact w3 a' p3z H xs e3 e2
 ·refine (hw.hd H xs e).but hk hmm (hw.km m hmm:∃ o T,c.base.get? m = some o /\ o.cls = .type T /\ T ≠ "tuple") fun q=>?_
  obtain ⟨k,vs,sl,fp,z1,_⟩:=hw.hd H xs e
  rcases hm with rfl | rfl
  ·exact jIU ((w1 a p ha).kinds).1 ⟨_,z1,rfl⟩ q.symm
  ·exact w3 a p H xs ha e q.symm
end
section
variable {n:Nat} {s:Shared}
theorem qFM {b:Heap} {fq:List Addr} (hs:∀ a ∈ fq,∀ o,h.get? a = some o -> b.get? a = some o) (ht:∀ a,Tp h a -> ∀ o,h.get? a = some o -> b.get? a = some o) :
  (∀ {v d fp},Rp X h v d fp -> (∀ a ∈ fp,a ∈ fq) -> d.plain = true -> Rp X b v d fp) /\ (∀ {vs ds fp},Rps X h vs ds fp -> (∀ a ∈ fp,a ∈ fq) -> D.plains ds = true -> Rps X b vs ds fp) :=
 Rp.both (P:=fun v d fp=>(∀ a ∈ fp,a ∈ fq) -> d.plain = true -> Rp X b v d fp) (Ps:=fun v d fp=>(∀ a ∈ fp,a ∈ fq) -> D.plains d = true -> Rps X b v d fp)
  (fun _ _=>.none) (fun x _ _=>.bool x) (fun i t _ _=>.int i t) (fun x t _ _=>.str x t)
  (fun h1 h2 h3 r hw hp=>.list (hs _ (hw _ (vBA ..)) _ h1) h2 h3 (r (fun a ha=>hw a (vBC _ ha)) hp))
  (fun h1 h2 h3 r hw hp=>.tup (ht _ ⟨_,_,_,h1,h2,h3⟩ _ h1) h2 h3 (r hw hp))
  (fun _ _ _ _ _ hp=>Bool.noConfusion hp) (fun _ _ hp=>Bool.noConfusion hp) (fun _ _=>.nil)
  (fun r rs hw hp=>.cons (r (fun a ha=>hw a (vBU _ ha)) (XM hp).1) (rs (fun a ha=>hw a (vBQ _ ha)) (XM hp).2))
theorem qGO (hg:Gd c s) (hw:Wd c) (hl:∀ b ∈ fp,FpL s.heap b) (hf:∀ b ∈ fp,b ∉ c.mu) :
  ∃ c',Sp (fun b=>b ∈ fp /\ c.base.get? b = none) c s c' s /\ c'.sg = c.sg /\ c'.mu = c.mu /\ (∀ b ∈ fp,Fz c' b) /\ ∀ {v d f},Rp c.mg s.heap v d f -> (∀ a ∈ f,a ∈ fp) -> d.plain = true -> Rp c'.mg c'.base v d f:=by
 have hst:c.base.StaysIn (cut (fun b=>c.base.get? b ≠ none \/ b ∈ fp \/ Tp s.heap b) s.heap):=fun b o e=>by
  rw [Qq (.inl (by rw [e];exact fun q=>nomatch q))];exact hg.1 b o e
 refine ⟨{ c with base:=cut (fun b=>c.base.get? b ≠ none \/ b ∈ fp \/ Tp s.heap b) s.heap },⟨⟨_,_,rfl⟩,⟨_,_,_,rfl⟩,KpP.refl _ _,fun b o e=>?_,fun b o e=>⟨o,hst b o e⟩,fun b o e _=>hst b o e,fun b h=>.inl h,fun b h=>h,fun b hb=>?_,hw.keeps hst,fun b o e=>(XK e).2,hg.2⟩,rfl,rfl,fun b hb=>?_,?_⟩
 ·obtain ⟨q | q | q,w⟩:=XK e
  ·exact .inl (ne_none.mp q)
  ·cases z:c.base.get? b with
   | none=>exact .inr (.inr (.inl ⟨q,rfl⟩))
   | some o'=>exact .inl ⟨o',rfl⟩
  ·exact .inr (.inr (.inr q))
 ·obtain ⟨o,vs,k,z1,z2,z3⟩:=hl b hb.1
  exact ⟨o,z1,JK z3⟩
 ·refine nn fun gN=>?_
  obtain ⟨o,vs,k,z1,z2,z3⟩:=hl b hb
  refine gN ?_
  exact ⟨⟨o,by rw [Qq (.inr (.inl hb))];exact z1⟩,hf b hb⟩
 ·intro v d f r hr hp
  exact (qFM (fq:=fp) (fun a ha o e=>by rw [Qq (.inr (.inl ha))];exact e) (fun a ha o e=>by rw [Qq (.inr (.inr ha))];exact e)).1 r hr hp
theorem Fs.frzT (x:Fs c1z sE hm n A l f0 env nm c h0z Z vf s) (st:St c env.locals s s1z) (tr:Tr c s.heap vf occ fp) (hl:∀ b ∈ fp,FpL s1z.heap b) :
  ∃ c',Sp (fun b=>b ∈ fp /\ c.base.get? b = none) c s1z c' s1z /\ c'.sg = c.sg /\ (∀ b ∈ fp,Fz c' b) /\ (∀ {v d f},Rp c.mg s1z.heap v d f -> (∀ a ∈ f,a ∈ fp) -> d.plain = true -> Rp c'.mg c'.base v d f) /\ 
   Fs c1z sE hm n A l f0 env nm c' (jVL h0z c' s1z.heap) (JX occ Z) vf s1z:=by
 refine nn fun gN=>?_
 obtain ⟨c',g,e,_,hz,hr⟩:=qGO st.bs x.wd hl (x.trMu tr)
 refine gN ?_
 exact ⟨c',g,e,hz,hr,((x.st st).stp ((x.iv.keep st).wkS (ZE occ Z))).go g (fun b hb=>jVZ x.iv tr b hb.1) (fun i a ha hN=>(hz a hN.1).2) fun b hb=>x.trYoung tr b hb.1 hb.2⟩
theorem jWL {m:Addr} {o':Obj} {t:Nat} (hg:Gd c s) (hm:m ∈ c.mu) (hs:Heap.SameBut m s.heap h') (hm':h'.get? m = some o') (ht:1 <= t)
  (hw:Wd { c with base:=cut (fun b=>c.base.get? b ≠ none) h',sg:=sg' }):Sp No c s { c with base:=cut (fun b=>c.base.get? b ≠ none) h',sg:=sg' } { s with heap:=h',toks:=t }:=by
 have hk:∀ b o,b ≠ m -> c.base.get? b = some o -> (cut (fun b=>c.base.get? b ≠ none) h').get? b = some o:=fun b o hb e=>by
  rw [Qq (by rw [e];exact fun q=>nomatch q),hs.2 b hb];exact hg.1 b o e
 refine ⟨⟨_,_,rfl⟩,⟨_,_,_,rfl⟩,KpP.of_but fun b o hb e=>?_,fun b o e=>.inl (ne_none.mp (XK e).1),fun b o e=>?_,fun b o e hb=>hk b o (fun q=>hb (q ▸ hm)) e,fun b h=>.inl h,fun b h=>h,fun _ h=>h.elim,hw,fun b o e=>(XK e).2,ht⟩
 ·rw [hs.2 b fun q=>hb (q ▸ hm)];exact e
 ·by_cases q:b = m
  ·subst q
   exact ⟨o',by rw [Qq (by rw [e];exact fun q=>nomatch q)];exact hm'⟩
  ·exact ⟨o,hk b o q e⟩
theorem qBP {a:Addr} {v:Value} (hg:Gd c s) (hw:Wd c) (pc:Pc c P ix K C) (ha:c.sg.pg a = some p)
  (hx:x = "kept" /\ (∀ b ∈ fp,Fz c b) \/ x = "wide" /\ fp = []) (hr:Rp c.mg c.base v d fp)
  (hQ:∀ c' s',Sp No c s c' s' -> c'.sg = XH c.sg a (if x = "kept" then { p with k:=d } else { p with w:=d }) -> Q () s'):wpAny (model c.prog c.w) A (setAttr (.ref a) x v) Q E s:=by
 refine nn fun gN=>?_
 obtain ⟨dx,pa,pgA,upd⟩:=hw.setPage ha
 have pg:=jz pc.chk
 have X:K.In s.heap:=fun b o e=>hg.1 b o (pc.kin b o e)
 obtain ⟨C',n1,n2,n3,t1,t2,t3,vk,vw,n,k,vs,sl,fk,fq,e1,e2,e3,e4,e5,e6,e7,e8,e9,e10,e11⟩:=pgA
 rw [pc.mg] at e1
 obtain rfl:C = C':=by injection e1 with e1;injection e1
 have I:InstAt s.heap a { cls:=.ref C,dict:=some dx,data:=.plain } C (some (pgD n1 n2 n3 t1 t2 t3 vk vw (.ref pa) n)):=⟨hg.1 _ _ e2,rfl,rfl,hg.1 _ _ e3⟩
 have kt:∀ b o,b = dx -> c.base.get? b = some o -> ∃ T,o.cls = .type T /\ T ≠ "tuple":=fun b o z e=>by
  obtain rfl:=z.symm;rw [e3] at e;obtain rfl:=vAy e;exact ⟨"dict",rfl,by decide⟩
 have fin:∀ (h':Heap) (vk' vw':Value) (fk':List Addr) (p':Pg),Heap.SameBut dx s.heap h' -> h'.get? dx = some (pgD n1 n2 n3 t1 t2 t3 vk' vw' (.ref pa) n) -> Rp c.mg c.base vk' p'.k fk' -> (∀ b ∈ fk',b ∉ c.mu) -> Rp c.mg c.base vw' p'.w [] -> p'.p = p.p -> 
   Sp No c s { c with base:=cut (fun b=>c.base.get? b ≠ none) h',sg:=XH c.sg a p' } { s with heap:=h',toks:=s.toks + 2 }:=fun h' vk' vw' fk' p' hs hd' r1 r2 r3 r4=>by
  have hk:∀ b o,b ≠ dx -> c.base.get? b = some o -> (cut (fun b=>c.base.get? b ≠ none) h').get? b = some o:=fun b o hb e=>by
   rw [Qq (by rw [e];exact fun q=>nomatch q),hs.2 b hb];exact hg.1 b o e
  have hdx:(cut (fun b=>c.base.get? b ≠ none) h').get? dx = some (pgD n1 n2 n3 t1 t2 t3 vk' vw' (.ref pa) n):=by rw [Qq (by rw [e3];exact fun q=>nomatch q:c.base.get? dx ≠ none)];exact hd'
  refine jWL hg e10 hs hd' (vAz hg.2 (vBW ..)) (upd dx _ p' (.inl rfl) hk ⟨_,"dict",hdx,rfl,by decide,fun vs q=>by cases q⟩ (fun b o e=>ne_none.mp (XK e).1) ?_)
  exact ⟨C,n1,n2,n3,t1,t2,t3,vk',vw',n,k,vs,sl,fk',fq,pc.mg,hk _ _ (fun z=>by rw [z,e3] at e2;exact absurd (vAy e2) (by intro q;cases q):a ≠ dx) e2,hdx,hk _ _ (fun z=>by rw [z,e3] at e4;exact absurd (congrArg Obj.cls (vAy e4)) (by show Value.type "dict" ≠ Value.type "list";decide):pa ≠ dx) e4,r1.keepOn (W:=(· = dx)) (fun b o z e _=>hk b o z e:∀ b o,¬ b = dx -> c.base.get? b = some o -> JW o -> (cut (fun b=>c.base.get? b ≠ none) h').get? b = some o) kt (fun b hb z=>r2 b hb (z ▸ e10)),r3.keepOn (W:=(· = dx)) (fun b o z e _=>hk b o z e:∀ b o,¬ b = dx -> c.base.get? b = some o -> JW o -> (cut (fun b=>c.base.get? b ≠ none) h').get? b = some o) kt (fun b hb=>nomatch hb),
   r4 ▸ e7.keepOn (W:=(· = dx)) (fun b o z e _=>hk b o z e:∀ b o,¬ b = dx -> c.base.get? b = some o -> JW o -> (cut (fun b=>c.base.get? b ≠ none) h').get? b = some o) kt (fun b hb z=>e9 b hb (z ▸ e10)),r2,e9,e10,e11⟩
 refine gN ?_
 rcases hx with ⟨rfl,hf⟩ | ⟨rfl,rfl⟩
 ·refine jWN X I rfl pg (by show (findIn K (.ref C) "kept").bind _ = _;rw [pg.nk];rfl) rfl rfl rfl (show 3 <= 1000 by decide) fun h' hs hd'=>?_
  exact hQ _ _ (fin h' v vw fp { p with k:=d } hs hd' hr (fun b hb=>(hf b hb).2) e6 rfl) rfl
 ·refine jWN X I rfl pg (by show (findIn K (.ref C) "wide").bind _ = _;rw [pg.nw];rfl) rfl rfl rfl (show 3 <= 1000 by decide) fun h' hs hd'=>?_
  exact hQ _ _ (fin h' vk v fk { p with w:=d } hs hd' e5 e8 hr rfl) (by rw [if_neg (by decide)])
variable {Q:Flow -> Shared -> Prop}
theorem Fs.no (x:Fs c1z sE hm n A l f0 env nm c h0z Z vf s) (g:Sp No c s c' s'):Fs c1z sE hm n A l f0 env nm c' (jVL h0z c' s'.heap) Z vf s' :=
 x.go g (fun _ h=>h.elim) (fun _ _ _ h=>h.elim) (fun _ h=>h.elim)
theorem qCW (h:Z[j]? = some (some (d,la))):∃ l',(JX occ Z)[j]? = some (some (d,l')):=by
 unfold JX
 rw [List.getElem?_mapIdx,h,Option.map_some]
 split
 ·exact ⟨0,rfl⟩
 ·exact ⟨la,rfl⟩
theorem vm {a:Addr} {vs:Array Value} (hl:h.IsList a vs) (hn:Nd h a):∃ k sl,h.get? a = some { cls:=.type "list",data:=.seq vs k,slots:=sl }:=by
 refine nn fun gN=>?_
 obtain ⟨o,k,h1,h2,h3,h4⟩:=IsList.get hl hn
 obtain ⟨oc,od,oda,os⟩:=o
 dsimp only at h2 h3 h4
 refine gN ?_
 clear gN
 subst h2 h3 h4
 exact ⟨k,os,h1⟩
def PaAt (h:Heap) (a pa:Addr):Prop:=∃ o dx od,h.get? a = some o /\ o.dict = some dx /\ h.get? dx = some od /\ lookIn "past" od = some (some (.ref pa))
theorem PaAt.uniq {a pa':Addr} (x:PaAt h a pa) (y:PaAt h a pa'):pa = pa':=by
 obtain ⟨o,dx,od,h1,h2,h3,h4⟩:=x
 obtain ⟨o',dx',od',g1,g2,g3,g4⟩:=y
 rw [h1] at g1;obtain rfl:=vAy g1
 rw [h2] at g2;obtain rfl:=vAy g2
 rw [h3] at g3;obtain rfl:=vAy g3
 rw [h4] at g4
 injection g4 with g4;injection g4 with g4;injection g4
theorem PaAt.keeps {a:Addr} (x:PaAt h a pa) (hs:h.StaysIn h'):PaAt h' a pa:=by
 obtain ⟨o,dx,od,h1,h2,h3,h4⟩:=x
 exact ⟨o,dx,od,hs _ _ h1,h2,hs _ _ h3,h4⟩
theorem jCA {a:Addr} {ps:List D} (hg:Gd c s) (hw:Wd c) (ha:c.sg.pg a = some p) :
  ∃ pa vs fq,PaAt c.base a pa /\ s.heap.IsList pa vs /\ Nd s.heap pa /\ Rps c.mg c.base vs.toList p.p fq /\ ((∀ b ∈ fq,Fz c b) /\ pa ∈ c.mu) /\ 
   ∀ h' vs' fp',Heap.SameBut pa s.heap h' -> h'.IsList pa vs' -> Nd h' pa -> Rps c.mg c.base vs'.toList ps fp' -> (∀ b ∈ fp',b ∉ c.mu) -> ∀ t,1 <= t -> 
    ∃ c',Sp No c s c' { s with heap:=h',toks:=t } /\ c'.sg = XH c.sg a { p with p:=ps }:=by
 refine nn fun gN=>?_
 obtain ⟨dx,pa,pgA,upd⟩:=hw.setPage ha
 obtain ⟨C',n1,n2,n3,t1,t2,t3,vk,vw,n,k,vs,sl,fk,fq,e1,e2,e3,e4,e5,e6,e7,e8,e9,e10,e11⟩:=pgA
 refine gN ?_
 refine ⟨pa,vs,fq,⟨_,dx,_,e2,rfl,e3,rfl⟩,⟨_,(hg.1 _ _ e4),rfl,k,rfl⟩,⟨_,vs,k,(hg.1 _ _ e4),rfl,rfl⟩,e7,⟨fun b hb=>⟨?_,e9 b hb⟩,e11⟩,fun h' vs' fp' hs hl hn hr hf t ht=>?_⟩
 ·obtain ⟨o,_,_,z,_⟩:=e7.fp_list b hb;exact ⟨o,z⟩
 obtain ⟨k',sl',hpa'⟩:=vm hl hn
 have kt:∀ b o,b = pa -> c.base.get? b = some o -> ∃ T,o.cls = .type T /\ T ≠ "tuple":=fun b o z e=>by
  obtain rfl:=z.symm;rw [e4] at e;obtain rfl:=vAy e;exact ⟨"list",rfl,by decide⟩
 have hk:∀ b o,b ≠ pa -> c.base.get? b = some o -> (cut (fun b=>c.base.get? b ≠ none) h').get? b = some o:=fun b o hb e=>by
  rw [Qq (by rw [e];exact fun q=>nomatch q),hs.2 b hb];exact hg.1 b o e
 have hpx:(cut (fun b=>c.base.get? b ≠ none) h').get? pa = some { cls:=.type "list",data:=.seq vs' k',slots:=sl' }:=by rw [Qq (by rw [e4];exact fun q=>nomatch q:c.base.get? pa ≠ none)];exact hpa'
 refine ⟨_,jWL hg e11 hs hpa' ht (upd pa _ { p with p:=ps } (.inr rfl) hk ⟨_,"list",hpx,rfl,by decide,fun vs q=>by cases q⟩ (fun b o e=>ne_none.mp (XK e).1) ?_),rfl⟩
 exact ⟨C',n1,n2,n3,t1,t2,t3,vk,vw,n,k',vs',sl',fk,fp',e1,hk _ _ (fun z=>by rw [z,e4] at e2;exact absurd (vAy e2) (by intro q;cases q):a ≠ pa) e2,hk _ _ (fun z=>by rw [z,e4] at e3;exact absurd (congrArg Obj.cls (vAy e3)) (by show Value.type "list" ≠ Value.type "dict";decide):dx ≠ pa) e3,hpx,e5.keepOn (W:=(· = pa)) (fun b o z e _=>hk b o z e:∀ b o,¬ b = pa -> c.base.get? b = some o -> JW o -> (cut (fun b=>c.base.get? b ≠ none) h').get? b = some o) kt (fun b hb z=>e8 b hb (z ▸ e11)),e6.keepOn (W:=(· = pa)) (fun b o z e _=>hk b o z e:∀ b o,¬ b = pa -> c.base.get? b = some o -> JW o -> (cut (fun b=>c.base.get? b ≠ none) h').get? b = some o) kt (fun b hb=>nomatch hb),
  hr.keepOn (W:=(· = pa)) (fun b o z e _=>hk b o z e:∀ b o,¬ b = pa -> c.base.get? b = some o -> JW o -> (cut (fun b=>c.base.get? b ≠ none) h').get? b = some o) kt (fun b hb z=>hf b hb (z ▸ e11)),e8,hf,e10,e11⟩
theorem jJC {a:Addr} {x:Bool} {Q:Ta} (hs:c.base.StaysIn s.heap) (hw:Wd c) (pc:Pc c P ix K C) (ha:c.sg.pg a = some p) (hp:PaAt c.base a pa) (h:Q (.ref pa) { s with toks:=s.toks + 1 }) :
  wpAny (model c.prog c.w) A (getAttr (.ref a) "past" x) Q E s:=by
 refine nn fun gN=>?_
 obtain ⟨dx,pa',w1,_⟩:=hw.pg
 obtain ⟨ox,od,vk,vw,fk,I,hd,l1,l2,l3,l4,r1,r2,r3⟩:=(w1 a p ha).inst hs pc.mg
 have e:pa = pa' a:=(hp.keeps hs).uniq ⟨_,_,_,I.at_,hd,by have:=I.dict;rw [hd] at this;exact this,l3⟩
 rw [e] at h
 refine gN ?_
 exact get_value (fun b o e=>hs b o (pc.kin b o e)) I (jz pc.chk).ga (findObj_own (jz pc.chk).hd (jz pc.chk).np rfl l3) rfl h
structure Tk (env:Env) (c:Cx) (h0z:Heap) (Z:G) (vf:Tb) (s:Shared) (c':Cx) (h0':Heap) (Z':G) (vf':Tb) (s':Shared):Prop where
 kp:∀ b o,s.heap.get? b = some o -> JW o -> ¬ Mut env Z vf b -> b ∉ c.mu -> s'.heap.get? b = some o /\ ¬ Mut env Z' vf' b /\ b ∉ c'.mu
 fz:∀ b,Fz c b -> Fz c' b
 it:∀ b,ItObj s.heap b -> ¬ Mut env Z vf b -> b ∉ c.mu -> h0z.get? b = none -> h0'.get? b = none
theorem Tk.trans {h0'':Heap} (x:Tk env c h0z Z vf s c' h0' Z' vf' s') (y:Tk env c' h0' Z' vf' s' c'' h0'' Z'' vf'' s''):Tk env c h0z Z vf s c'' h0'' Z'' vf'' s'' :=
 ⟨fun b o e nd h1 h2=>let ⟨q1,q2,q3⟩:=x.kp b o e nd h1 h2;y.kp b o q1 nd q2 q3,fun b h=>y.fz b (x.fz b h),fun b hI h1 h2 h3=>by
  obtain ⟨o,T,e,nd,z1,z2,z3⟩:=id hI
  obtain ⟨q1,q2,q3⟩:=x.kp b o e nd h1 h2
  exact y.it b ⟨o,T,q1,nd,z1,z2,z3⟩ q2 q3 (x.it b hI h1 h2 h3)⟩
theorem Tk.stp (p:Stp c h0z f0 env nm Z vf s Z' vf' s'):Tk env c h0z Z vf s c h0z Z' vf' s' :=
 ⟨fun b o e nd h1 h2=>⟨(p.kp b o h1 e).1 nd,p.mut b o e h1,h2⟩,fun _ h=>h,fun _ _ _ _ h=>h⟩
theorem Tk.sp (g:Sp N c s c' s') (hN:∀ b,N b -> b ∉ c'.mu) (hl:∀ b,N b -> FpL s.heap b) (hb:∀ b o,c.base.get? b = some o -> h0z.get? b = some o):Tk env c h0z Z vf s c' (jVL h0z c' s'.heap) Z vf s' :=
 ⟨fun b o e nd h1 h2=>⟨(g.kp b o h2 e).1 nd,h1,fun q=>by
  rcases g.mu b q with w | ⟨_,w | w⟩
  ·exact h2 w
  ·rw [e] at w;exact son w
  ·exact hN b w q⟩,fun b h=>g.fz h,fun b ⟨o,T,e,nd,z1,z2,z3⟩ h1 h2 h3=>Z6 h3 (by
   cases q:c'.base.get? b with
   | none=>rfl
   | some o' =>
    rcases g.nb b o' q with ⟨o'',w⟩ | w | w | ⟨o'',vs,k,w1,w2,w3⟩
    ·rw [hb b o'' w] at h3;exact nos h3.symm
    ·rw [e] at w;exact son w
    ·obtain ⟨o'',vs,k,w1,w2,w3⟩:=hl b w
     rw [e] at w1;obtain rfl:=vAy w1
     rw [z1] at w2;injection w2 with w2;exact absurd w2 z2
    ·rw [e] at w1;obtain rfl:=vAy w1
     rw [z1] at w2;injection w2 with w2;exact absurd w2 z3)⟩
theorem Tk.no (g:Sp No c s c' s') (hb:∀ b o,c.base.get? b = some o -> h0z.get? b = some o):Tk env c h0z Z vf s c' (jVL h0z c' s'.heap) Z vf s':=Tk.sp g (fun _ h=>h.elim) (fun _ h=>h.elim) hb
theorem Fs.frzK (x:Fs c1z sE hm n A l f0 env nm c h0z Z vf s) (st:St c env.locals s s1z) (tr:Tr c s.heap vf occ fp) (hl:∀ b ∈ fp,FpL s1z.heap b) :
  ∃ c' h0',(∃ N,Sp N c s1z c' s1z) /\ c'.sg = c.sg /\ (∀ b ∈ fp,Fz c' b) /\ (∀ {v d f},Rp c.mg s1z.heap v d f -> (∀ a ∈ f,a ∈ fp) -> d.plain = true -> Rp c'.mg c'.base v d f) /\ 
   Fs c1z sE hm n A l f0 env nm c' h0' (JX occ Z) vf s1z /\ Tk env c h0z Z vf s c' h0' (JX occ Z) vf s1z:=by
 refine nn fun gN=>?_
 obtain ⟨c',g,e,hz,hr,y⟩:=x.frzT st tr hl
 refine gN ?_
 clear gN
 refine ⟨c',_,⟨_,g⟩,e,hz,hr,y,(Tk.stp (x.iv.step st)).trans ((Tk.stp ((x.iv.keep st).wkS (ZE occ Z))).trans (Tk.sp g (fun b hb=>(hz b hb.1).2) (fun b hb=>hl b hb.1) x.iv.bh))⟩
abbrev Vx (c0z c1z:Cx) (sE:Shared) (hm:Bool) (n:Nat) (A:Around) (l:List Env) (f0:List Addr) (env:Env) (nm:List Str) (c:Cx) (h0z:Heap) (Z:G) (s:Shared) (Z':G) (vf:Tb) (Wz:Sg) (d:D) (R:Ta):Prop :=
 ∀ v fp c' h0' s',Fam c0z c' -> c'.sg = Wz -> Fs c1z sE hm n A l f0 env nm c' h0' Z' vf s' -> Tk env c h0z Z vf s c' h0' Z' vf s' -> Rp c'.mg s'.heap v d fp -> (∀ b ∈ fp,Fz c' b) -> R v s'
theorem qDS {g:G -> Option (R (List D))} {ds0:List D} {vs0z:List Value} {Q:Ta} 
  (fm:Fam c0z c) (y:Fs c1z sE hm n A l f0 env nm c h0z Z vf s) (hsc:env.scope = sc) (h:DenA c hm n sc nm es occ g) (hg:g Z = some (.ok ds)) (ho:OpT c0z hm n op U) (hU:U c.sg (ds0 ++ ds) = some (d,W'))
  (h0:∀ X (h:Heap),Rps X h vs0z ds0 []) (k:Vx c0z c1z sE hm n A l f0 env nm c h0z Z s (JX occ Z) vf W' d Q) :
  wpAny (model c0z.prog c0z.w) A (spliced (backTo pos (starEach es env))) (fun vs s1z=>(∀ b o,c.base.get? b = some o -> s1z.heap.get? b = some o) /\ wpAny (model c0z.prog c0z.w) A (op (vs0z ++ vs)) Q E s1z) E s:=by
 rw [<- fm.md]
 refine h.ok hsc y.rm y.iv.rd hg (fun vs fp s1z st rp tr=>⟨st.bs.1,?_⟩)
 refine nn fun gN=>?_
 obtain ⟨c',h0',⟨_,g'⟩,eW,hz,hr,y',tk⟩:=y.frzK st tr (fun b hb=>rp.fp_list b hb)
 obtain ⟨b,mu,sg,ec⟩:=g'.cx
 subst ec
 refine gN ?_
 rw [fm.md]
 exact ho { c with base:=b,mu:=mu,sg:=sg } A l s1z (vs0z ++ vs) (ds0 ++ ds) fp d W' Q E (fm.go g') y'.rm y'.iv.rd.bs (by exact ((h0 c.mg s1z.heap).append rp)) hz (by rw [show ({ c with base:=b,mu:=mu,sg:=sg }:Cx).sg = c.sg from eW];exact hU)
  fun c'' v fp' s' g'' e' r' z'=>k v fp' c'' _ s' ((fm.go g').go g'') e' (y'.no g'') (tk.trans (Tk.no g'' y'.iv.bh)) r' z'
def MeT (c0z:Cx) (K:Frag) (C:Addr) (hm:Bool) (n:Nat) (x:Str) (U:Sg -> List D -> Option (D × Sg)):Prop :=
 ∃ f o fd,findIn K (.ref C) x = some (some (.ref f)) /\ typeIn K (.ref f) = some (.type "function") /\ c0z.base.get? f = some o /\ o.data = .func fd /\ OpT c0z hm n (fun vs=>call (.ref f) vs) U
def FnT (c0z:Cx) (hm:Bool) (n:Nat) (x:Str) (U:Sg -> List D -> Option (D × Sg)):Prop :=
 ∃ f o fd,c0z.mg x = some (.ref f) /\ c0z.base.get? f = some o /\ o.data = .func fd /\ OpT c0z hm n (fun vs=>call (.ref f) vs) U
theorem qNX {v:Str} {g:G -> Option (R (List D))} {a:Addr} {Q:Ta} 
  (fm:Fam c0z c) (pc0:Pc c0z P ix K C) (y:Fs c1z sE hm n A l f0 env nm c h0z Z vf s) (hsc:env.scope = sc) (hv:nm[j]? = some v) (hj:Z[j]? = some (some (.ob a,la))) (ha:c.sg.pg a = some p)
  (hF:MeT c0z K C hm n x U) (h:DenA c hm n sc nm (e :: rest) occ g) (hg:g Z = some (.ok ds)) (hU:U c.sg (.ob a :: ds) = some (d,W')) (k:Vx c0z c1z sE hm n A l f0 env nm c h0z Z s (JX occ Z) vf W' d Q)
  (hx:autoParam ((x != "kept" && x != "wide" && x != "past") = true) yK) (hs:autoParam (QC e) yN) (hmf:autoParam (Xi (.Name v np) x ap (e :: rest) pos) yM) :
  wpAny (model c0z.prog c0z.w) A (eval (.Call (.Attribute (.Name v np) x ap) (e :: rest) [] pos) env) Q E s:=by
 refine nn fun gN=>?_
 obtain ⟨y1,z1,z2,z3⟩:=y.iv.rd.var j (.ob a) la hj
 refine gN ?_
 rw [hv] at z1;obtain rfl:=vAy z1
 refine nn fun gN=>?_
 rw [(jy z3).1] at z2
 obtain ⟨f,o,fd,m1,m2,m3,m4,m5⟩:=hF
 refine gN ?_
 rw [<- fm.md]
 refine MethodCall_ (XS y.iv.rd.fn z2 (jCF y.wd (fm.pc pc0) y.iv.rd.bs.1 ha m1 m2 hx ?_)) (hmf env)
 rw [fm.md]
 exact callWith_meth (h₀:=c.base) m4 (fm.st _ _ m3) (qDS (vs0z:=[.ref a]) (ds0:=[.ob a]) fm y hsc h hg m5 hU (fun X h=>.cons (.ob a) .nil) k) (hs _ _)
theorem qLN {v:Str} {a:Addr} {Q:Ta} 
  (fm:Fam c0z c) (pc0:Pc c0z P ix K C) (y:Fs c1z sE hm n A l f0 env nm c h0z Z vf s) (hv:nm[j]? = some v) (hj:Z[j]? = some (some (.ob a,la))) (ha:c.sg.pg a = some p)
  (hF:MeT c0z K C hm n x U) (hU:U c.sg [.ob a] = some (d,W')) (k:Vx c0z c1z sE hm n A l f0 env nm c h0z Z s Z vf W' d Q)
  (hx:autoParam ((x != "kept" && x != "wide" && x != "past") = true) yK) (hmf:autoParam (Xi (.Name v np) x ap [] pos) yM) :
  wpAny (model c0z.prog c0z.w) A (eval (.Call (.Attribute (.Name v np) x ap) [] [] pos) env) Q E s:=by
 refine nn fun gN=>?_
 obtain ⟨y1,z1,z2,z3⟩:=y.iv.rd.var j (.ob a) la hj
 refine gN ?_
 rw [hv] at z1;obtain rfl:=vAy z1
 refine nn fun gN=>?_
 rw [(jy z3).1] at z2
 obtain ⟨f,o,fd,m1,m2,m3,m4,m5⟩:=hF
 refine gN ?_
 rw [<- fm.md]
 refine MethodCall_ (XS y.iv.rd.fn z2 (jCF y.wd (fm.pc pc0) y.iv.rd.bs.1 ha m1 m2 hx ?_)) (hmf env)
 rw [fm.md]
 exact callWith_meth0 m4 (y.iv.rd.bs.1 _ _ (fm.st _ _ m3)) (m5 c A l s [.ref a] [.ob a] [] d W' Q E fm y.rm y.iv.rd.bs (.cons (.ob a) .nil) (fun _ h=>nomatch h) hU fun c'' v fp' s' g'' e' r' z'=>k v fp' c'' _ s' (fm.go g'') e' (y.no g'') (Tk.no g'' y.iv.bh) r' z')
theorem qNY {f:Str} {g:G -> Option (R (List D))} {Q:Ta} 
  (fm:Fam c0z c) (ok0:c0z.Ok) (y:Fs c1z sE hm n A l f0 env nm c h0z Z vf s) (hsc:env.scope = sc) (hF:FnT c0z hm n f U) (h:DenA c hm n sc nm (e :: rest) occ g) (hg:g Z = some (.ok ds)) (hU:U c.sg ds = some (d,W'))
  (k:Vx c0z c1z sE hm n A l f0 env nm c h0z Z s (JX occ Z) vf W' d Q) (hk:autoParam (sc.names.lookup f = some .globalImplicit) yK) (hd:autoParam ((f == ("__debug__":Str)) = false) yK) (hs:autoParam (QC e) yN) :
  wpAny (model c0z.prog c0z.w) A (eval (.Call (.Name f np) (e :: rest) [] pos) env) Q E s:=by
 refine nn fun gN=>?_
 obtain ⟨fa,o,fd,m1,m3,m4,m5⟩:=hF
 refine gN ?_
 rw [<- fm.md]
 refine Call_ (J8 (fm.ok ok0) y.iv.rd hsc hk hd (.inl (by rw [fm.mgE];exact m1)) ?_) (by rfl)
 rw [fm.md]
 refine callWith_def (o:=o) (fd:=fd) m4 (vCO (qDS (vs0z:=[]) (ds0:=[]) fm y hsc h hg m5 hU (fun X h=>.nil) k) (fun vs s1z h=>⟨h.1 fa o (fm.st _ _ m3),h.2⟩) fun _ _ x=>x) (hs _ _)
theorem Fs.fin (x:Fs c1z sE hm n A l f0 env nm c h0z Z vf s):Sp No c1z sE c s:=(x.vh.step x.iv.kb).out x.iv.rd.bs x.sm
abbrev qPC (c:Cx) (s:Shared) (W':Sg) (d:D) (Q:Flow -> Shared -> Prop):Prop :=
 ∀ w c' v fp' s',(w = .ret v \/ w = .next /\ v = .none) -> Sp No c s c' s' -> c'.sg = W' -> Rp c'.mg s'.heap v d fp' -> (∀ a ∈ fp',Fz c' a) -> Q w s'
def qDR (c0z:Cx) (hm:Bool) (n:Nat) (sc:Scope) (nm:List Str) (body:List Stmt) (k np:Nat) (U:Sg -> List D -> Option (D × Sg)):Prop :=
 ∀ (c:Cx) (A:Around) (l:List Env) (s:Shared) (ds:List D) (fp:List Addr) (d:D) (W':Sg),Fam c0z c -> U c.sg ds = some (d,W') -> ds.length = np /\ 
  ∀ (env:Env) (vf:Tb) (s1z:Shared) (Q:Flow -> Shared -> Prop) (E:Ta),ScF env sc l -> Fs c s hm n A l fp env nm c s.heap (Xm k ds) vf s1z -> 
   qPC c s W' d Q -> wpAny (model c0z.prog c0z.w) A (execs body env) Q E s1z
theorem qEH {ps:List Str} {a:Addr} (ok0:c0z.Ok) (g2:c0z.base.get? a = some o) (g3:o.data = .func fd) (g4:c0z.base.CodeRec fd.code fd.qualname) (gs:FdOk fd sc body)
  (hok:jBO sc ps nm = true) (hbind:∀ vs:List Value,vs.length = ps.length -> bindArgs fd ⟨vs,[]⟩ = pure (ps.zip vs)) (hB:qDR c0z hm n sc nm body k ps.length U):OpT c0z hm (n + 1) (fun vs=>call (.ref a) vs) U:=by
 intro c A l s vs ds fp d W' Q E fm hR hg rs hz hU hQ
 rw [<- fm.md]
 refine vCi (vF k (fm.ok ok0) (fm.st _ _ g2) g3 (g4.keeps fm.st) gs hok (hbind vs) hR hg.1 (.inl hg.2) rs ?_ fun env vf s1z hsc hR1 iv hsm=>?_)
 ·exact (hB c (A.deeper default) l s ds fp d W' fm hU).1
 ·rw [fm.md]
  refine (hB c (A.deeper env) (env :: l) s ds fp d W' fm hU).2 env vf s1z _ _ hsc ⟨iv,Vh.refl fm.wd,hR1,fm.wd,hg.1,hsm,hz⟩ fun w c' v fp' s' hw g e r z=>?_
  rcases hw with rfl | ⟨rfl,rfl⟩
  ·exact hQ c' v fp' s' g e r z
  ·exact hQ c' .none fp' s' g e r z
theorem jLJ {d:DefRec} {ps:List Str} (ok0:c0z.Ok) (pc:Pc c0z P ix K C) (hx:(x,k0z) ∈ pageMeths) (hd:jFB P ix k0z = d)
  (hB:qDR c0z hm n d.scope nm d.body k ps.length U) (hbind:∀ q pm code doc (vals:List Value),vals.length = ps.length -> bindArgs (qCD q d pm code doc) ⟨vals,[]⟩ = pure (ps.zip vals)) (hok:autoParam (jBO d.scope ps nm = true) yK) :
  MeT c0z K C hm (n + 1) x U:=by
 refine nn fun gN=>?_
 obtain ⟨f,o,pm,code,doc,g1,g2,g3,g4,g5⟩:=qBN pc hx hd
 refine gN ?_
 clear gN
 exact ⟨f,o,_,g1,g2,g3,g4,qEH ok0 g3 g4 g5 ⟨rfl,rfl,rfl,rfl,rfl⟩ hok (fun vs=>hbind _ _ _ _ vs) hB⟩
theorem jST {d:DefRec} {ps:List Str} (ok0:c0z.Ok) (hf:QZ c0z d) (hB:qDR c0z hm n d.scope nm d.body k ps.length U)
  (hbind:∀ pm code doc (vals:List Value),vals.length = ps.length -> bindArgs (docDef d.name d.params d.body d.scope pm code doc) ⟨vals,[]⟩ = pure (ps.zip vals)) (hok:autoParam (jBO d.scope ps nm = true) yK):FnT c0z hm (n + 1) d.name U:=by
 refine nn fun gN=>?_
 obtain ⟨a,o,pm,code,doc,g1,g2,g3,g4⟩:=hf
 refine gN ?_
 clear gN
 exact ⟨a,o,_,g1,g2,g3,qEH ok0 g2 g3 g4 ⟨rfl,rfl,rfl,rfl,rfl⟩ hok (hbind pm code doc) hB⟩
end
section
variable {n:Nat}
noncomputable def qAE (d:D × Nat):Tj:=match d.1 with
 | .bool t=>some (.ok (.bool t,2))
 | _=>none
noncomputable def jGU (d:D × Nat) (g:Tj):Tj:=match d.1 with
 | .bool true=>g
 | .bool false=>some (.ok (.bool false,2))
 | _=>none
theorem jZR {op1 op2:CmpOp} {F1 F2:Td} {e3z:Expr} {o3:List Nat} {g k:Tg}
  (ho1z:OpN c hm n (vD op1) F1) (ho2z:OpN c hm n (vD op2) F2) (h1:Den c hm n sc nm e1z o1 f) (h2:Den c hm n sc nm e2z o2 g) (h3:Den c hm n sc nm e3z o3 k)
  (hmk:autoParam (lastMarks [op1,op2] [e2z,e3z] = false) yK) :
  Den c hm n sc nm (.Compare e1z [op1,op2] [e2z,e3z] pos) [] (fun Z=>JR (f Z) fun a=>JR (g Z) fun b=>JR (F1 [a.1,b.1]) fun d=>jGU d (JR (k Z) fun e=>JR (F2 [b.1,e.1]) qAE)):=by
 intro A l env Z vf s r Q E hsc hR hRd hf hQ hE
 obtain ⟨m,hn⟩:=hRd.ns
 refine Compare_chain (h1.run hsc hR hRd hf (fun a la _ hf va fa s1z st1z ra ta lva hR1 hRd1=>?_) hE) hmk
 obtain ⟨m1z,hn1z⟩:=hRd1.ns
 refine chain_link (h2.run hsc hR1 hRd1 hf (fun b lb _ hf vb fb s2z st2z rb tb lvb hR2z hRd2z=>?_) (fun x k s' e fl=>hE x k s' e (fl.back st1z hn)))
 obtain ⟨m2z,hn2z⟩:=hRd2z.ns
 rcases J6 hf with ⟨⟨d,lv⟩,h5,hf⟩ | ⟨k,h5,rfl⟩
 ·refine ho1z.ok (vs:=[va,vb]) (ds:=[a,b]) hR2z hn2z hRd2z.nb hRd2z.bs (Rps.two (st2z.kp.rp hn1z ra) rb) h5 (fun v fp s3z st3z rp tr lvl=>?_)
  unfold jGU at hf
  split at hf
  ·rename_i q
   subst q
   refine Qs (b:=true) (L:=env.locals) st3z.bs rp rfl fun s4z st4z=>?_
   have st:=(st1z.trans st2z).trans (st3z.trans st4z)
   refine chain_last ?_
   refine h3.run hsc (hR.keep st.kp hn) (hRd.keep st) hf (fun b' lb' _ hf vb' fb' s5 st5z rb' tb' lvb' hR5z hRd5=>?_) (fun x k s' e fl=>hE x k s' e (fl.back st hn))
   obtain ⟨m5z,hn5⟩:=hRd5.ns
   rcases J6 hf with ⟨⟨d,lv⟩,h7,hf⟩ | ⟨k,h7,rfl⟩
   ·refine ho2z.ok (vs:=[vb,vb']) (ds:=[b,b']) hR5z hn5 hRd5.nb hRd5.bs (Rps.two (st5z.kp.rp (st.kp.ns m hn) ((st3z.trans st4z).kp.rp hn2z rb)) rb') h7 (fun v fp s6 st6 rp tr lvl=>?_)
    unfold qAE at hf
    split at hf
    ·rename_i t q
     subst q
     obtain rfl:=rp.flat_fp rfl
     exact hQ _ _ _ _ _ ((vAy hf).symm) (st.trans (st5z.trans st6)) rp Tr.nil (Lv.nil _ _)
    ·exact nos hf
   ·exact ho2z A l env.locals m5z s5 [vb,vb'] [b,b'] (fb ++ fb') _ _ E hR5z hn5 hRd5.nb hRd5.bs (Rps.two (st5z.kp.rp (st.kp.ns m hn) ((st3z.trans st4z).kp.rp hn2z rb)) rb') h7 (fun v d' lv' fp s3z e=>rnx e) (fun x k' s' e fl=>by cases e;exact hE x k s' rfl ((fl.back st5z (st.kp.ns m hn)).back st hn))
  ·rename_i q
   subst q
   refine Qs (b:=false) (L:=env.locals) st3z.bs rp rfl fun s4z st4z=>?_
   obtain rfl:=(st4z.kp.rp (st3z.kp.ns _ hn2z) rp).flat_fp rfl
   exact hQ _ _ _ _ _ ((vAy hf).symm) ((st1z.trans st2z).trans (st3z.trans st4z)) (st4z.kp.rp (st3z.kp.ns _ hn2z) rp) Tr.nil (Lv.nil _ _)
  ·exact nos hf
 ·exact ho1z A l env.locals m2z s2z [va,vb] [a,b] (fa ++ fb) _ _ E hR2z hn2z hRd2z.nb hRd2z.bs (Rps.two (st2z.kp.rp hn1z ra) rb) h5 (fun v d' lv' fp s3z e=>rnx e) (fun x k' s' e fl=>by cases e;exact hE x k s' rfl (fl.back (st1z.trans st2z) hn))
end
inductive OT where
 | next (Z:G) (Wz:Sg)
 | brk (Z:G) (Wz:Sg)
 | ret (d:D) (Wz:Sg)
abbrev Te:=Sg -> G -> Option OT
def jFX (c0z:Cx) (hm:Bool) (n:Nat) (sc:Scope) (nm:List Str) (e:Expr) (f:Ti):Prop :=
 ∀ (c1z:Cx) (sE:Shared) (A:Around) (l:List Env) (f0:List Addr) (env:Env) (c:Cx) (h0z:Heap) (Z:G) (vf:Tb) (s:Shared) (d:D) (W':Sg) (Z':G) (Q:Ta) (E:Ta),
  Fam c0z c -> env.scope = sc -> Fs c1z sE hm n A l f0 env nm c h0z Z vf s -> f c.sg Z = some (d,W',Z') -> Vx c0z c1z sE hm n A l f0 env nm c h0z Z s Z' vf W' d Q -> wpAny (model c0z.prog c0z.w) A (eval e env) Q E s
abbrev Vy (c0z c1z:Cx) (sE:Shared) (hm:Bool) (n:Nat) (A:Around) (l:List Env) (f0:List Addr) (env:Env) (nm:List Str) (c:Cx) (h0z:Heap) (Z:G) (s:Shared) (Z':G) (vf:Tb) (Wz:Sg) (R:Shared -> Prop):Prop :=
 ∀ c' h0' s',Fam c0z c' -> c'.sg = Wz -> Fs c1z sE hm n A l f0 env nm c' h0' Z' vf s' -> Tk env c h0z Z vf s c' h0' Z' vf s' -> R s'
def qEV (c0z:Cx) (hm:Bool) (n:Nat) (sc:Scope) (nm:List Str) (e:Expr) (f:Sg -> G -> Option (Bool × Sg × G)):Prop :=
 ∀ (c1z:Cx) (sE:Shared) (A:Around) (l:List Env) (f0:List Addr) (env:Env) (c:Cx) (h0z:Heap) (Z:G) (vf:Tb) (s:Shared) (b:Bool) (W':Sg) (Z':G) (Q:Bool -> Shared -> Prop) (E:Ta),
  Fam c0z c -> env.scope = sc -> Fs c1z sE hm n A l f0 env nm c h0z Z vf s -> f c.sg Z = some (b,W',Z') -> Vy c0z c1z sE hm n A l f0 env nm c h0z Z s Z' vf W' (Q b) -> wpAny (model c0z.prog c0z.w) A (isTrue e env (eval e env)) Q E s
def qLL (c0z:Cx) (hm:Bool) (n:Nat) (sc:Scope) (nm:List Str) (es:List Expr) (f:Sg -> G -> Option (Bool × Sg × G)):Prop :=
 ∀ (c1z:Cx) (sE:Shared) (A:Around) (l:List Env) (f0:List Addr) (env:Env) (c:Cx) (h0z:Heap) (Z:G) (vf:Tb) (s:Shared) (b:Bool) (W':Sg) (Z':G) (Q:Bool -> Shared -> Prop) (E:Ta),
  Fam c0z c -> env.scope = sc -> Fs c1z sE hm n A l f0 env nm c h0z Z vf s -> f c.sg Z = some (b,W',Z') -> Vy c0z c1z sE hm n A l f0 env nm c h0z Z s Z' vf W' (Q b) -> wpAny (model c0z.prog c0z.w) A (allTrue .Or es env) Q E s
def PostT (c0z c1z:Cx) (sE:Shared) (hm:Bool) (n:Nat) (A:Around) (l:List Env) (f0:List Addr) (env:Env) (nm:List Str) (c:Cx) (h0z:Heap) (Z:G) (vf:Tb) (s:Shared):OT -> Flow -> Shared -> Prop
 | .next Z' W',.next,s'=>∃ vf' c' h0',Fam c0z c' /\ c'.sg = W' /\ Fs c1z sE hm n A l f0 env nm c' h0' Z' vf' s' /\ Tk env c h0z Z vf s c' h0' Z' vf' s'
 | .brk Z' W',.brk,s'=>∃ vf' c' h0',Fam c0z c' /\ c'.sg = W' /\ Fs c1z sE hm n A l f0 env nm c' h0' Z' vf' s' /\ Tk env c h0z Z vf s c' h0' Z' vf' s'
 | .ret d W',.ret v,s'=>∃ c' fp,Sp No c1z sE c' s' /\ c'.sg = W' /\ Rp c'.mg s'.heap v d fp /\ ∀ a ∈ fp,Fz c' a
 | _,_,_=>False
def jVN (c0z:Cx) (hm:Bool) (n:Nat) (sc:Scope) (nm:List Str) (st:Stmt) (f:Te):Prop :=
 ∀ (c1z:Cx) (sE:Shared) (A:Around) (l:List Env) (f0:List Addr) (env:Env) (c:Cx) (h0z:Heap) (Z:G) (vf:Tb) (s:Shared) (r:OT) (Q:Flow -> Shared -> Prop) (E:Ta),
  Fam c0z c -> ScF env sc l -> Fs c1z sE hm n A l f0 env nm c h0z Z vf s -> f c.sg Z = some r -> (∀ w s',PostT c0z c1z sE hm n A l f0 env nm c h0z Z vf s r w s' -> Q w s') -> wpAny (model c0z.prog c0z.w) A (exec st env) Q E s
def jNK (c0z:Cx) (hm:Bool) (n:Nat) (sc:Scope) (nm:List Str) (st:List Stmt) (f:Te):Prop :=
 ∀ (c1z:Cx) (sE:Shared) (A:Around) (l:List Env) (f0:List Addr) (env:Env) (c:Cx) (h0z:Heap) (Z:G) (vf:Tb) (s:Shared) (r:OT) (Q:Flow -> Shared -> Prop) (E:Ta),
  Fam c0z c -> ScF env sc l -> Fs c1z sE hm n A l f0 env nm c h0z Z vf s -> f c.sg Z = some r -> (∀ w s',PostT c0z c1z sE hm n A l f0 env nm c h0z Z vf s r w s' -> Q w s') -> wpAny (model c0z.prog c0z.w) A (execs st env) Q E s
section
variable {n:Nat} {s:Shared}
theorem PostT.back (t:Tk env c h0z Z vf s c' h0' Z' vf' s') {o:OT} {w:Flow} (p:PostT c0z c1z sE hm n A l f0 env nm c' h0' Z' vf' s' o w s''):PostT c0z c1z sE hm n A l f0 env nm c h0z Z vf s o w s'':=by
 cases o <;> cases w <;> first | exact p.elim | exact p | skip
 ·obtain ⟨v,c2,h2,p1,p2,p3,p4⟩:=p;exact ⟨v,c2,h2,p1,p2,p3,t.trans p4⟩
 ·obtain ⟨v,c2,h2,p1,p2,p3,p4⟩:=p;exact ⟨v,c2,h2,p1,p2,p3,t.trans p4⟩
noncomputable def QU (Wz:Sg):Option O -> Option OT
 | some (.next Z)=>some (.next Z Wz)
 | some (.brk Z)=>some (.brk Z Wz)
 | some (.ret d _)=>some (.ret d Wz)
 | _=>none
noncomputable def okX (Wz:Sg) (Z:G):Option (R (D × Nat)) -> Option (D × Sg × G)
 | some (.ok (d,_))=>some (d,Wz,Z)
 | _=>none
noncomputable def okY (Wz:Sg) (Z:G):Option (R Bool) -> Option (Bool × Sg × G)
 | some (.ok b)=>some (b,Wz,Z)
 | _=>none
theorem jSK {x:Tj} {r:D × Sg × G} (h:okX Wz Z x = some r):∃ d lv,x = some (.ok (d,lv)) /\ (d,Wz,Z) = r:=by
 rcases x with _ | ⟨d,lv⟩ | _ <;> first | exact nos h | exact ⟨_,_,rfl,vAy h⟩
theorem qBT {x:Option (R Bool)} {r:Bool × Sg × G} (h:okY Wz Z x = some r):∃ b,x = some (.ok b) /\ (b,Wz,Z) = r:=by
 rcases x with _ | _ | _ <;> first | exact nos h | exact ⟨_,rfl,vAy h⟩
theorem Jg {st:Stmt} {f:Tf} (h:∀ c,Fam c0z c -> jKM c hm n sc nm st (f c.sg)):jVN c0z hm n sc nm st (fun Wz Z=>QU Wz (f Wz Z)):=by
 intro c1z sE A l f0 env c h0z Z vf s r Q E fm hs y hf hQ
 rw [<- fm.md]
 dsimp only at hf
 rcases q:f c.sg Z with _ | o <;> rw [q] at hf
 ·exact nos hf
 cases o <;> first | exact nos hf | skip
 ·obtain rfl:=vAy hf
  refine h c fm A l env h0z f0 Z vf s _ _ E hs y.rm y.iv q (fun w s' p=>?_) (fun _ s' p=>p.elim)
  cases w <;> first | exact p.elim | skip
  obtain ⟨vf',p⟩:=p
  exact hQ _ _ ⟨vf',c,h0z,fm,rfl,y.stp p,Tk.stp p⟩
 ·obtain rfl:=vAy hf
  refine h c fm A l env h0z f0 Z vf s _ _ E hs y.rm y.iv q (fun w s' p=>?_) (fun _ s' p=>p.elim)
  cases w <;> first | exact p.elim | skip
  obtain ⟨vf',p⟩:=p
  exact hQ _ _ ⟨vf',c,h0z,fm,rfl,y.stp p,Tk.stp p⟩
 ·obtain rfl:=vAy hf
  refine h c fm A l env h0z f0 Z vf s _ _ E hs y.rm y.iv q (fun w s' p=>?_) (fun _ s' p=>p.elim)
  cases w <;> first | exact p.elim | skip
  obtain ⟨c',fp,g,e,r,z⟩:=y.ret p
  exact hQ _ _ ⟨c',fp,g,e,r,z⟩
theorem jEC {f:Sg -> Tg} (h:∀ c,Fam c0z c -> Den c hm n sc nm e occ (f c.sg)):jFX c0z hm n sc nm e (fun Wz Z=>okX Wz (JX occ Z) (f Wz Z)):=by
 intro c1z sE A l f0 env c h0z Z vf s d W' Z' Q E fm hs y hf hQ
 rw [<- fm.md]
 dsimp only at hf
 obtain ⟨d',lv,q,e⟩:=jSK hf
 ·cases e
  refine (h c fm).ok hs y.rm y.iv.rd q (fun v fp s1z st rp tr lvl=>?_)
  obtain ⟨c',h',⟨_,g⟩,eW,hz,hr,y',tk⟩:=y.frzK st tr (fun b hb=>rp.fp_list b hb)
  exact hQ v fp c' h' s1z (fm.go g) eW y' tk ((by obtain ⟨_,_,_,z⟩:=g.cx;rw [z]:c'.mg = c.mg) ▸ rp) hz
theorem jQA {f:Sg -> G -> Option (R Bool)} (h:∀ c,Fam c0z c -> DenB c hm n sc nm e (f c.sg)):qEV c0z hm n sc nm e (fun Wz Z=>okY Wz Z (f Wz Z)):=by
 intro c1z sE A l f0 env c h0z Z vf s b W' Z' Q E fm hs y hf hQ
 rw [<- fm.md]
 dsimp only at hf
 obtain ⟨b',q,e⟩:=qBT hf
 ·cases e
  refine (h c fm).ok hs y.rm y.iv.rd q (fun s1z st=>?_)
  exact hQ c h0z s1z fm rfl (y.st st) (Tk.stp (y.iv.step st))
noncomputable def Jn (x:Option OT) (f:Te):Option OT :=
 match x with
 | some (.next Z Wz)=>f Wz Z
 | r=>r
@[simp] theorem qHZ (Z:G) (Wz:Sg) (f:Te):Jn (some (.next Z Wz)) f = f Wz Z:=rfl
@[simp] theorem qKW (Z:G) (Wz:Sg) (f:Te):Jn (some (.brk Z Wz)) f = some (.brk Z Wz):=rfl
@[simp] theorem qKV (d:D) (Wz:Sg) (f:Te):Jn (some (.ret d Wz)) f = some (.ret d Wz):=rfl
theorem Jw:jNK c0z hm n sc nm [] (fun Wz Z=>some (.next Z Wz)):=by
 intro c1z sE A l f0 env c h0z Z vf s r Q E fm hs y hf hQ
 obtain rfl:=vAy hf
 exact vBp (hQ _ _ ⟨vf,c,h0z,fm,rfl,y,Tk.stp (y.iv.step (St.refl y.iv.rd.bs))⟩)
theorem JN {st:Stmt} {rest:List Stmt} {f g:Te} (h1:jVN c0z hm n sc nm st f) (h2:jNK c0z hm n sc nm rest g):jNK c0z hm n sc nm (st :: rest) (fun Wz Z=>Jn (f Wz Z) g):=by
 intro c1z sE A l f0 env c h0z Z vf s r Q E fm hs y hf hQ
 refine wpAny_execs_cons ?_
 dsimp only at hf
 cases hfs:f c.sg Z with
 | none=>rw [hfs] at hf;exact nos hf
 | some o =>
  rw [hfs] at hf
  refine h1 c1z sE A l f0 env c h0z Z vf s o _ E fm hs y hfs fun w s' p=>?_
  cases o with
  | next Z' W' =>
   cases w <;> first | exact p.elim | skip
   refine nn fun gN=>?_
   obtain ⟨vf',c',h',fm',e',y',t⟩:=p
   subst e'
   refine gN ?_
   clear gN
   exact h2 c1z sE A l f0 env c' h' Z' vf' s' r Q E fm' hs y' hf fun w s'' q=>hQ w s'' (q.back t)
  | brk Z' W' =>
   cases w <;> first | exact p.elim | skip
   obtain rfl:=vAy hf
   exact hQ _ _ p
  | ret d W' =>
   cases w <;> first | exact p.elim | skip
   obtain rfl:=vAy hf
   exact hQ _ _ p
theorem jMP {f:Ti} (h:jFX c0z hm n sc nm e f):jVN c0z hm n sc nm (.Return (some e) pos) (fun Wz Z=>(f Wz Z).map fun x=>.ret x.1 x.2.1):=by
 intro c1z sE A l f0 env c h0z Z vf s r Q E fm hs y hf hQ
 refine nn fun gN=>?_
 obtain ⟨⟨d,W',Z'⟩,h1,rfl⟩:=vBD.mp hf
 refine gN ?_
 clear gN
 exact vCr (h c1z sE A l f0 env c h0z Z vf s d W' Z' _ E fm hs.1 y h1 fun v fp c' h' s' fm' e' y' tk rp hz=>hQ _ _ ⟨c',fp,y'.fin,e',rp,hz⟩)
theorem jQD {f:Ti} (h:jFX c0z hm n sc nm e f) (hs:autoParam (∀ env:Env,env.scope = sc -> swapsWith e none pos.line env = pure false) yN)
  (hi:autoParam (∀ env:Env,env.scope = sc -> interactive env = false) yE):jVN c0z hm n sc nm (.Expr e pos) (fun Wz Z=>(f Wz Z).map fun x=>.next x.2.2 x.2.1):=by
 intro c1z sE A l f0 env c h0z Z vf s r Q E fm hsF y hf hQ
 refine nn fun gN=>?_
 obtain ⟨⟨d,W',Z'⟩,h1,rfl⟩:=vBD.mp hf
 refine gN ?_
 clear gN
 exact vCZ (h c1z sE A l f0 env c h0z Z vf s d W' Z' _ E fm hsF.1 y h1 fun v fp c' h' s' fm' e' y' tk rp hz=>hQ _ _ ⟨vf,c',h',fm',e',y',tk⟩) (hi env hsF.1) (hs env hsF.1)
theorem Fs.store {v:Value} (fm:Fam c0z c) (y:Fs c1z sE hm n A l f0 env nm c h0z Z vf s) (rp:Rp c.mg s.heap v d fp) (hz:∀ b ∈ fp,Fz c b)
  (hsc:env.scope = sc) (hx:nm[i]? = some x) (hk:stK sc x = true) (ho:jNN x = true)
  (hQ:∀ s' vf',Fs c1z sE hm n A l f0 env nm c h0z (Z.set i (some (d,JZ d))) vf' s' -> Tk env c h0z Z vf s c h0z (Z.set i (some (d,JZ d))) vf' s' -> Q () s'):wpAny (model c0z.prog c0z.w) A (storeName env x v) Q E s:=by
 rw [<- fm.md]
 refine jGD (lv:=JZ d) (Zbz:=Z) y.iv (St.refl y.iv.rd.bs) rp (fun j d l e=>⟨l,vBI _,e⟩) (fun a ha=>.inr (.inr (hz a ha))) ?_ ?_ ?_ hsc hx hk ho fun s3z sp3 _=>hQ s3z _ (y.stp sp3) (Tk.stp sp3)
 ·intro h1 a t e
  unfold JZ at h1
  split at h1
  ·rename_i hfl;rw [rp.flat_fp hfl] at e;cases e
  ·exact absurd h1 (vBX _)
 ·intro h1
  unfold JZ at h1
  split at h1
  ·rename_i hfl;rw [rp.flat_fp hfl];exact ⟨fun _ h=>(nomatch h),.nil⟩
  ·exact absurd h1 (vBX _)
 ·intro b j d' l' hj e h hb
  obtain ⟨o,q⟩:=(hz b hb).1
  have:=Mut.new y.iv (.inr (.inr ⟨j,d',l',e,h⟩))
  rw [y.iv.bh b o q] at this;exact son this
theorem jMR {p:Pos} {f:Ti} (i:Nat) (h:jFX c0z hm n sc nm e f) (hx:autoParam (nm[i]? = some x) yL) (hk:autoParam (stK sc x = true) yK) (ho:autoParam (jNN x = true) yK)
  (hs:autoParam (∀ env:Env,env.scope = sc -> swapsWith e (some (.Name x p)) pos.line env = pure false) yN) :
  jVN c0z hm n sc nm (.Assign [.Name x p] e pos) (fun Wz Z=>(f Wz Z).map fun y=>.next (y.2.2.set i (some (y.1,JZ y.1))) y.2.1):=by
 intro c1z sE A l f0 env c h0z Z vf s r Q E fm hsF y hf hQ
 refine nn fun gN=>?_
 obtain ⟨⟨d,W',Z'⟩,h1,rfl⟩:=vBD.mp hf
 refine gN ?_
 clear gN
 refine vCV (h c1z sE A l f0 env c h0z Z vf s d W' Z' _ E fm hsF.1 y h1 fun v fp c' h' s' fm' e' y' tk rp hz=>?_) (hs env hsF.1)
 exact y'.store fm' rp hz hsF.1 hx hk ho fun s3z vf3 y3z t3z=>hQ _ _ ⟨vf3,c',h',fm',e',y3z,tk.trans t3z⟩
theorem jMQ {orelse:List Stmt} {f:Sg -> G -> Option (Bool × Sg × G)} {g k:Te} (h:qEV c0z hm n sc nm test f) (h1:jNK c0z hm n sc nm body g) (h2:jNK c0z hm n sc nm orelse k) :
  jVN c0z hm n sc nm (.If test body orelse pos) (fun Wz Z=>(f Wz Z).bind fun x=>if x.1 then g x.2.1 x.2.2 else k x.2.1 x.2.2):=by
 intro c1z sE A l f0 env c h0z Z vf s r Q E fm hsF y hf hQ
 refine nn fun gN=>?_
 obtain ⟨⟨b,W',Z'⟩,e1,e2⟩:=vBG.mp hf
 refine gN ?_
 clear gN
 refine wpAny_If (h c1z sE A l f0 env c h0z Z vf s b W' Z' _ E fm hsF.1 y e1 fun c' h' s' fm' e' y' tk=>?_)
 dsimp only at e2
 subst e'
 cases b with
 | true=>exact h1 c1z sE A l f0 env c' h' Z' vf s' r Q E fm' hsF y' e2 fun w s'' p=>hQ w s'' (p.back tk)
 | false=>exact h2 c1z sE A l f0 env c' h' Z' vf s' r Q E fm' hsF y' e2 fun w s'' p=>hQ w s'' (p.back tk)
theorem jMO {f:Sg -> G -> Option (Bool × Sg × G)} (h:qEV c0z hm n sc nm e f):qEV c0z hm n sc nm (.UnaryOp .Not e pos) (fun Wz Z=>(f Wz Z).map fun x=>(!x.1,x.2)):=by
 intro c1z sE A l f0 env c h0z Z vf s b W' Z' Q E fm hs y hf hQ
 refine nn fun gN=>?_
 obtain ⟨⟨b',W1z,Z1z⟩,e1,e2⟩:=vBD.mp hf
 cases e2
 refine gN ?_
 clear gN
 exact isTrue_not (h c1z sE A l f0 env c h0z Z vf s b' _ _ _ E fm hs y e1 hQ)
theorem jMN {f:Ti} (h:jFX c0z hm n sc nm e f) (he:autoParam (∀ env whole,isTrue e env whole = (do let v <- whole;standAt e.pos;holding [v] (truthy v))) yN) :
  qEV c0z hm n sc nm e (fun Wz Z=>(f Wz Z).bind fun x=>(Qp x.1).map fun b=>(b,x.2)):=by
 intro c1z sE A l f0 env c h0z Z vf s b W' Z' Q E fm hs y hf hQ
 refine nn fun gN=>?_
 obtain ⟨⟨d,W1z,Z1z⟩,e1,e2⟩:=vBG.mp hf
 obtain ⟨b',e3,e4⟩:=vBD.mp e2
 cases e4
 refine gN ?_
 clear gN
 refine isTrue_plain (h c1z sE A l f0 env c h0z Z vf s d _ _ _ E fm hs y e1 fun v fp c' h' s' fm' e' y' tk rp hz=>?_) (he _ _)
 rw [<- fm'.md]
 exact Qs (L:=env.locals) y'.iv.rd.bs rp e3 fun s'' st=>hQ c' h' s'' fm' e' (y'.st st) (tk.trans (Tk.stp (y'.iv.step st)))
noncomputable def qNE (F:Td) (x:D × Sg × G):Option (Bool × Sg × G):=match F [x.1,.none] with
 | some (.ok (.bool b,_))=>some (b,x.2)
 | _=>none
theorem qHC {op:CmpOp} {p:Pos} {f:Ti} (ho:∀ c,OpN c hm n (vD op) F) (h:jFX c0z hm n sc nm e1z f) (hmk:autoParam (behindInMarks op (.Constant .none k p) = false) yK) :
  qEV c0z hm n sc nm (.Compare e1z [op] [.Constant .none k p] pos) (fun Wz Z=>(f Wz Z).bind fun x=>qNE F x):=by
 intro c1z sE A l f0 env c h0z Z vf s b W' Z' Q E fm hs y hf hQ
 refine nn fun gN=>?_
 obtain ⟨⟨d,W1z,Z1z⟩,e1,e2⟩:=vBG.mp hf
 unfold qNE at e2
 dsimp only at e2
 refine gN ?_
 clear gN
 split at e2
 ·rename_i b' lv q
  cases vAy e2
  refine wpAny_isTrue_Compare1 (h c1z sE A l f0 env c h0z Z vf s d _ _ _ E fm hs y e1 fun v fp c' h' s' fm' e' y' tk rp hz=>?_) hmk
  rw [<- fm'.md]
  obtain ⟨m,hn⟩:=y'.iv.rd.ns
  refine (Qt (c:=c') (hm:=hm) (n:=n) (nm:=nm)).ok hs y'.rm y'.iv.rd rfl (fun v2 fp2 s2 st2 rp2 tr2 lvl2=>?_)
  have y2:=y'.st st2
  obtain ⟨m2,hn2⟩:=y2.iv.rd.ns
  refine (ho c').ok (vs:=[v,v2]) (ds:=[d,.none]) y2.rm hn2 y2.iv.rd.nb y2.iv.rd.bs (Rps.two (st2.kp.rp hn rp) rp2) q (fun v3 fp3 s3 st3 rp3 tr3 lvl3=>?_)
  refine Qs (b:=b) (L:=env.locals) st3.bs rp3 rfl fun s4 st4=>?_
  exact hQ c' h' s4 fm' e' (y'.st (st2.trans (st3.trans st4))) (tk.trans (Tk.stp (y'.iv.step (st2.trans (st3.trans st4)))))
 ·exact nos e2
theorem qKG:qLL c0z hm n sc nm [] (fun Wz Z=>some (false,Wz,Z)):=by
 intro c1z sE A l f0 env c h0z Z vf s b W' Z' Q E fm hs y hf hQ
 cases vAy hf
 exact wpAny_allTrue_Or_nil (hQ c h0z s fm rfl y (Tk.stp (y.iv.step (St.refl y.iv.rd.bs))))
theorem jZU {f g:Sg -> G -> Option (Bool × Sg × G)} (h1:qEV c0z hm n sc nm e f) (h2:qLL c0z hm n sc nm es g) :
  qLL c0z hm n sc nm (e :: es) (fun Wz Z=>(f Wz Z).bind fun x=>if x.1 then some (true,x.2) else g x.2.1 x.2.2):=by
 intro c1z sE A l f0 env c h0z Z vf s b W' Z' Q E fm hs y hf hQ
 refine nn fun gN=>?_
 obtain ⟨⟨b',W1z,Z1z⟩,e1,e2⟩:=vBG.mp hf
 refine gN ?_
 clear gN
 refine wpAny_allTrue_Or_cons (h1 c1z sE A l f0 env c h0z Z vf s b' W1z Z1z _ E fm hs y e1 fun c' h' s' fm' e' y' tk=>?_)
 dsimp only at e2
 subst e'
 cases b' with
 | true=>cases vAy e2;exact hQ c' h' s' fm' rfl y' tk
 | false=>exact h2 c1z sE A l f0 env c' h' Z1z vf s' b W' Z' Q E fm' hs y' e2 fun c2 h2 s2 f2 e2 y2 t2=>hQ c2 h2 s2 f2 e2 y2 (tk.trans t2)
theorem qHD {f:Sg -> G -> Option (Bool × Sg × G)} (h:qLL c0z hm n sc nm es f):qEV c0z hm n sc nm (.BoolOp .Or es pos) f:=by
 intro c1z sE A l f0 env c h0z Z vf s b W' Z' Q E fm hs y hf hQ
 exact wpAny_isTrue_BoolOp (h c1z sE A l f0 env c h0z Z vf s b W' Z' Q E fm hs y hf hQ)
noncomputable def Qd (Wz:Sg) (Z:G) (F:Sg -> List D -> Option (D × Sg)):Option (R (List D)) -> Option (D × Sg × G)
 | some (.ok ds)=>(F Wz ds).map fun x=>(x.1,x.2,Z)
 | _=>none
theorem jMY {F:Sg -> List D -> Option (D × Sg)} {r:Option (R (List D))} (h:Qd Wz Z F r = some (d,W',Z')):Z' = Z /\ ∃ ds,r = some (.ok ds) /\ F Wz ds = some (d,W'):=by
 ·refine nn fun gN=>?_
  obtain ⟨ds,e0,h⟩:∃ ds,r = some (.ok ds) /\ (F Wz ds).map (fun x=>(x.1,x.2,Z)) = some (d,W',Z'):=by
   rcases r with _ | _ | _ <;> first | exact nos h | exact ⟨_,rfl,h⟩
  obtain ⟨⟨d',W1z⟩,e1,e2⟩:=vBD.mp h
  cases e2
  refine gN ?_
  clear gN
  exact ⟨rfl,ds,e0,e1⟩
theorem jQC {f:Str} {g:Sg -> G -> Option (R (List D))} (ok0:c0z.Ok) (hF:FnT c0z hm n f U) (h:∀ c,Fam c0z c -> DenA c hm n sc nm (e :: rest) occ (g c.sg))
  (hk:autoParam (sc.names.lookup f = some .globalImplicit) yK) (hd:autoParam ((f == ("__debug__":Str)) = false) yK) (hs:autoParam (QC e) yN) :
  jFX c0z hm n sc nm (.Call (.Name f np) (e :: rest) [] pos) (fun Wz Z=>Qd Wz (JX occ Z) U (g Wz Z)):=by
 intro c1z sE A l f0 env c h0z Z vf s d W' Z' Q E fm hsc y hf hQ
 refine nn fun gN=>?_
 obtain ⟨rfl,ds,e1,e2⟩:=jMY hf
 refine gN ?_
 clear gN
 exact qNY fm ok0 y hsc hF (h c fm) e1 e2 hQ hk hd hs
def jBE {α:Type} (Wz:Sg) (j:Nat) (Z:G) (k:D -> Option α):Option α:=atO Z j fun a=>if (Wz.pg a).isSome then k (.ob a) else none
theorem jLA {α:Type} {k:D -> Option α} {r:α} (h:jBE Wz j Z k = some r):∃ a la p,Z[j]? = some (some (.ob a,la)) /\ Wz.pg a = some p /\ k (.ob a) = some r:=by
 obtain ⟨a,la,e,h⟩:=Zk h
 obtain ⟨q,h⟩:=ifs h
 ··obtain ⟨p,q⟩:=vBe.mp q
   exact ⟨a,la,p,e,q,h⟩
theorem jQB {v:Str} {g:Sg -> G -> Option (R (List D))} (pc0:Pc c0z P ix K C) (hF:MeT c0z K C hm n x U) (h:∀ c,Fam c0z c -> DenA c hm n sc nm (e :: rest) occ (g c.sg))
  (hv:autoParam (nm[j]? = some v) yL) (hx:autoParam ((x != "kept" && x != "wide" && x != "past") = true) yK) (hs:autoParam (QC e) yN) (hmf:autoParam (Xi (.Name v np) x ap (e :: rest) pos) yM) :
  jFX c0z hm n sc nm (.Call (.Attribute (.Name v np) x ap) (e :: rest) [] pos) (fun Wz Z=>jBE Wz j Z fun a=>Qd Wz (JX occ Z) (fun Wz ds=>U Wz (a :: ds)) (g Wz Z)):=by
 intro c1z sE A l f0 env c h0z Z vf s d W' Z' Q E fm hsc y hf hQ
 refine nn fun gN=>?_
 obtain ⟨a,la,p,e1,e2,e3⟩:=jLA hf
 obtain ⟨rfl,ds,e4,e5⟩:=jMY e3
 refine gN ?_
 clear gN
 exact qNX fm pc0 y hsc hv e1 e2 hF (h c fm) e4 e5 hQ hx hs hmf
theorem qKK {v:Str} (pc0:Pc c0z P ix K C) (hF:MeT c0z K C hm n x U)
  (hv:autoParam (nm[j]? = some v) yL) (hx:autoParam ((x != "kept" && x != "wide" && x != "past") = true) yK) (hmf:autoParam (Xi (.Name v np) x ap [] pos) yM) :
  jFX c0z hm n sc nm (.Call (.Attribute (.Name v np) x ap) [] [] pos) (fun Wz Z=>jBE Wz j Z fun a=>(U Wz [a]).map fun x=>(x.1,x.2,Z)):=by
 intro c1z sE A l f0 env c h0z Z vf s d W' Z' Q E fm hsc y hf hQ
 refine nn fun gN=>?_
 obtain ⟨a,la,p,e1,e2,e3⟩:=jLA hf
 obtain ⟨⟨d',W1z⟩,e4,e5⟩:=vBD.mp e3
 cases e5
 refine gN ?_
 clear gN
 exact qLN fm pc0 y hv e1 e2 hF e4 hQ hx hmf
def qNN (c:Cx) (f:Str):Prop:=∃ a o fd,c.mg f = some (.ref a) /\ c.base.get? a = some o /\ o.data = .func fd
theorem qDH {f:Str} {f1z:Ti} {g:Sg -> G -> Option (R (List D))} (ok0:c0z.Ok) (hA:qNN c0z f) (hF:∀ c,Fam c0z c -> Fn c hm n f F) (h1:jFX c0z hm n sc nm e f1z)
  (h2:∀ c,Fam c0z c -> DenA c hm n sc nm rest occ (g c.sg)) (hk:autoParam (sc.names.lookup f = some .globalImplicit) yK) (hd:autoParam ((f == ("__debug__":Str)) = false) yK) (hs:autoParam (QC e) yN) :
  jFX c0z hm n sc nm (.Call (.Name f np) (e :: rest) [] pos) (fun Wz Z=>(f1z Wz Z).bind fun x=>okX x.2.1 (JX occ x.2.2) (JR (g x.2.1 x.2.2) fun ds=>F (x.1 :: ds))):=by
 intro c1z sE A l f0 env c h0z Z vf s d W' Z' Q E fm hsc y hf hQ
 refine nn fun gN=>?_
 obtain ⟨⟨d1z,W1z,Z1z⟩,e1,e2⟩:=vBG.mp hf
 dsimp only at e2
 obtain ⟨d',lv,q,e2⟩:=jSK e2
 refine gN ?_
 clear gN
 ·cases e2
  refine nn fun gN=>?_
  obtain ⟨fa,o,fd,m1,m3,m4⟩:=hA
  refine gN ?_
  clear gN
  rw [<- fm.md]
  refine Call_ (J8 (fm.ok ok0) y.iv.rd hsc hk hd (.inl (by rw [fm.mgE];exact m1)) ?_) (by rfl)
  rw [fm.md]
  refine callWith_def (o:=o) (fd:=fd) m4 (args_cons (h1 c1z sE A l f0 env c h0z Z vf s d1z _ _ _ E fm hsc y e1 fun v fp c' h' s' fm' e' y' tk rp hz=>?_) (hs _ _)) (hs _ _)
  refine nn fun gN=>?_
  obtain ⟨fa',o',fd',n1,n3,n4,ho⟩:=hF c' fm'
  obtain rfl:fa = fa':=by
   rw [fm'.mgE,m1] at n1
   injection n1 with n1;injection n1
  refine gN ?_
  clear gN
  rw [<- fm'.md]
  subst e'
  rcases J6 q with ⟨ds,q1,q2⟩ | ⟨k,_,q2⟩
  ·refine (h2 c' fm').ok hsc y'.rm y'.iv.rd q1 (fun vs fp2 s2 st2 rp2 tr2=>?_)
   refine nn fun gN=>?_
   obtain ⟨m,hn⟩:=y'.iv.rd.ns
   have y2:=y'.st st2
   obtain ⟨m2,hn2⟩:=y2.iv.rd.ns
   refine gN ?_
   clear gN
   refine ⟨st2.kp.keep hn (y'.iv.rd.bs.1 _ _ (fm'.st _ _ m3):s'.heap.get? fa = some o) (fun es m e=>by rw [m4] at e;cases e),?_⟩
   refine ho.ok (vs:=v :: vs) (ds:=d1z :: ds) y2.rm hn2 y2.iv.rd.nb y2.iv.rd.bs (.cons (st2.kp.rp hn rp) rp2) q2 (fun v3 fp3 s3 st3 rp3 tr3 lvl3=>?_)
   have htr:Tr c' s'.heap vf occ fp3:=fun b hb=>by
    rcases tr3 b hb with w | w | w
    ·exact .inl (st2.kp.gone hn w)
    ·rcases vBK.mp w with w | w
     ·exact .inr (.inr (hz b w))
     ·exact tr2 b w
    ·exact .inr (.inr w)
   obtain ⟨c'',h'',⟨_,g⟩,eW,hz3,_,y3,tk3⟩:=y'.frzK (st2.trans st3) htr (fun b hb=>rp3.fp_list b hb)
   exact hQ v3 fp3 c'' h'' s3 (fm'.go g) eW y3 (tk.trans tk3) ((by obtain ⟨_,_,_,z⟩:=g.cx;rw [z]:c''.mg = c'.mg) ▸ rp3) hz3
  ·cases q2
theorem qKJ {op:BoolOp} {f:Ti} (h:jFX c0z hm n sc nm e f):jFX c0z hm n sc nm (.BoolOp op [e] pos) f:=by
 intro c1z sE A l f0 env c h0z Z vf s d W' Z' Q E fm hsc y hf hQ
 exact BoolOp_one (h c1z sE A l f0 env c h0z Z vf s d W' Z' Q E fm hsc y hf hQ)
theorem qNC {f g:Ti} (h1:jFX c0z hm n sc nm e1z f) (h2:jFX c0z hm n sc nm (.BoolOp .Or (e2z :: rest) pos) g) :
  jFX c0z hm n sc nm (.BoolOp .Or (e1z :: e2z :: rest) pos) (fun Wz Z=>(f Wz Z).bind fun x=>(Qp x.1).bind fun b=>if b then some x else g x.2.1 x.2.2):=by
 intro c1z sE A l f0 env c h0z Z vf s d W' Z' Q E fm hsc y hf hQ
 refine nn fun gN=>?_
 obtain ⟨⟨d1z,W1z,Z1z⟩,e1,e2⟩:=vBG.mp hf
 obtain ⟨b,e3,e4⟩:=vBG.mp e2
 refine gN ?_
 clear gN
 refine BoolOp_or (h1 c1z sE A l f0 env c h0z Z vf s d1z W1z Z1z _ E fm hsc y e1 fun v fp c' h' s' fm' e' y' tk rp hz=>?_)
 rw [<- fm'.md]
 obtain ⟨m,hn⟩:=y'.iv.rd.ns
 refine Qs (L:=env.locals) y'.iv.rd.bs rp e3 fun s2z st2z=>?_
 have y2:=y'.st st2z
 have t2:=tk.trans (Tk.stp (y'.iv.step st2z))
 cases b with
 | true=>cases vAy e4;exact hQ v fp c' h' s2z fm' e' y2 t2 (st2z.kp.rp hn rp) hz
 | false =>
  rw [fm'.md]
  subst e'
  exact h2 c1z sE A l f0 env c' h' Z1z vf s2z d W' Z' Q E fm' hsc y2 e4 fun v fp c2 h2 s2 f2 e2 y2 t3 r2 z2=>hQ v fp c2 h2 s2 f2 e2 y2 (t2.trans t3) r2 z2
theorem Fs.iter (y:Fs c1z sE false n A l f0 env nm c h0z Z vf s) (hIo:ItObj s.heap I) (hM:¬ Mut env Z vf I) (hk:∀ b o,b ∉ [I] -> s.heap.get? b = some o -> h'.get? b = some o) (htk:1 <= tk) (hI0:h0z.get? I = none) :
  Fs c1z sE false n A l f0 env nm c h0z Z vf { s with heap:=h',toks:=tk }:=by
 refine ⟨y.iv.iter (let ⟨o,T,a,_,b,c,d⟩:=hIo;⟨o,T,a,b,c,d⟩) hM hk htk hI0,y.vh,⟨y.rm.fr,fun e he=>?_,y.rm.depth,y.rm.units,y.rm.hm⟩,y.w1,y.s1,?_,y.fz⟩
 ·refine nn fun gN=>?_
  obtain ⟨h1,L',o,es,n',h2,h3,h4,h5⟩:=y.rm.ok e he
  refine gN ?_
  clear gN
  refine ⟨h1,L',o,es,n',h2,h3,hk L' o (fun q=>?_) h4,h5⟩
  obtain ⟨oI,T,i1,i2,_⟩:=hIo
  rw [vBH.mp q,i1] at h4
  obtain rfl:=vAy h4
  exact i2 _ _ h5
 ·obtain ⟨h,t,e⟩:=y.sm
  exact ⟨h',tk,by rw [e]⟩
theorem Tk.iter (t:Tk env c h0z Z vf s c' h0' Z' vf' s') (hI:s.heap.get? I = none) (hk:∀ b o,b ∉ [I] -> s'.heap.get? b = some o -> h'.get? b = some o):Tk env c h0z Z vf s c' h0' Z' vf' { s' with heap:=h',toks:=tk } :=
 ⟨fun b o e nd h1 h2=>let ⟨q1,q2,q3⟩:=t.kp b o e nd h1 h2;⟨hk b o (fun q=>by rw [vBH.mp q,hI] at e;exact nos e) q1,q2,q3⟩,t.fz,t.it⟩
theorem Fs.fzOut (y:Fs c1z sE hm n A l f0 env nm c h0z Z vf s) (h:Fz c b):¬ Mut env Z vf b /\ b ∉ c.mu:=by
 obtain ⟨⟨o,q⟩,hm⟩:=h
 exact ⟨fun hM=>by have:=hM.new y.iv;rw [y.iv.bh b o q] at this;exact son this,hm⟩
theorem Tk.rp {v:Value} (t:Tk env c h0z Z vf s c' h0' Z' vf' s') (y:Fs c1z sE hm n A l f0 env nm c h0z Z vf s) (hmg:c'.mg = c.mg) (r:Rp c.mg s.heap v d fp) (hz:∀ a ∈ fp,Fz c a):Rp c'.mg s'.heap v d fp:=by
 rw [hmg]
 refine (qA (W:=fun b=>Mut env Z vf b \/ b ∈ c.mu) (fun b o hb e nd=>(t.kp b o e nd (fun q=>hb (.inl q)) (fun q=>hb (.inr q))).1) ?_ ?_).1 r fun a ha=>?_
 ·rintro b o vs k (hM | hM) e hc hd
  ·rcases hM.kind y.iv e with ⟨_,_,_,q⟩ | ⟨_,q⟩ | ⟨_,q,_⟩
   ·rw [hd] at q;cases q
   ·rw [hd] at q;cases q
   ·rw [hc] at q;injection q with z;exact absurd z (by decide)
  ·obtain ⟨o',T,w1,w2,w3⟩:=y.wd.km b hM
   rw [y.iv.rd.bs.1 b o' w1] at e;obtain rfl:=vAy e
   rw [w2] at hc;injection hc with z;exact w3 z
 ·rintro b o vs C (hM | hM) e hc hd
  ·rcases hM.kind y.iv e with ⟨_,_,_,q⟩ | ⟨_,q⟩ | ⟨_,_,_,_,q⟩ <;> (rw [hd] at q;cases q)
  ·obtain ⟨o',T,w1,w2,w3⟩:=y.wd.km b hM
   rw [y.iv.rd.bs.1 b o' w1] at e;obtain rfl:=vAy e
   rw [w2] at hc;cases hc
 ·rintro (hM | hM)
  ·exact (y.fzOut (hz a ha)).1 hM
  ·exact (y.fzOut (hz a ha)).2 hM
def itT:D -> Option (List D)
 | .list xs=>if xs.length <= lim then some xs else none
 | _=>none
noncomputable def lpT (r:Option OT) (k:Te):Option OT:=match r with
 | some (.next Z' W')=>k W' Z'
 | some (.brk Z' W')=>some (.next Z' W')
 | r=>r
def jDL (fB:Te) (ix:Nat):List D -> Te
 | [],Wz,Z=>some (.next Z Wz)
 | x :: xs,Wz,Z=>lpT (fB Wz (Z.set ix (some (x,JZ x)))) (jDL fB ix xs)
theorem vj (fB:Te) (ix:Nat) (x:D) (xs:List D) (Wz:Sg) (Z:G):jDL fB ix (x :: xs) Wz Z = lpT (fB Wz (Z.set ix (some (x,JZ x)))) (jDL fB ix xs):=rfl
inductive TInv (c0z c1z:Cx) (sE:Shared) (n:Nat) (A:Around) (l:List Env) (f0:List Addr) (env:Env) (nm:List Str) (c:Cx) (h0z:Heap) (Z:G) (vf:Tb) (s:Shared) (I:Addr) (W:Nat -> Heap -> Prop) (F:List D -> Te) (r:OT) (xs:List D) (s':Shared) (k:Nat):Prop
 | mk {i:Nat} {c':Cx} {h0':Heap} {Z':G} {vf':Tb} (fm:Fam c0z c') (y:Fs c1z sE false n A l f0 env nm c' h0' Z' vf' s') (t:Tk env c h0z Z vf s c' h0' Z' vf' s') (hW:W i s'.heap) (hl:F (xs.drop i) c'.sg Z' = some r) (hi:i <= xs.length)
   (h1:¬ Mut env Z' vf' I) (h2:I ∉ c'.mu) (h3:h0'.get? I = none) (hk:k = xs.length + 1 - i):TInv c0z c1z sE n A l f0 env nm c h0z Z vf s I W F r xs s' k
theorem jZV {iter:Expr} {f:Ti} {fB:Te} (ix:Nat) (hI:jFX c0z false n sc nm iter f) (hB:jNK c0z false n sc nm body fB) (hx:autoParam (nm[ix]? = some x) yL) (hk:autoParam (stK sc x = true) yK) (ho:autoParam (jNN x = true) yK)
  (hfs:autoParam (∀ env v,foldedSetIterable iter env v = pure v) yN) :
  jVN c0z false n sc nm (.For (.Name x px) iter body [] pos) (fun Wz Z=>(f Wz Z).bind fun y=>(itT y.1).bind fun xs=>jDL fB ix xs y.2.1 y.2.2):=by
 intro c1z sE A l f0 env c h0z Z vf s r Q E fm hsF y hf hQ
 refine nn fun gN=>?_
 obtain ⟨⟨d,W1z,Z1z⟩,e1,e2⟩:=vBG.mp hf
 obtain ⟨xs,e3,e4⟩:=vBG.mp e2
 have hd:d = .list xs:=by
  cases d <;> first | exact nos e3 | skip
  rw [vAy (ifs e3).2]
 subst hd
 refine gN ?_
 refine wpAny_For (hI c1z sE A l f0 env c h0z Z vf s _ W1z Z1z _ E fm hsF.1 y e1 fun v fp c2z h2z s2z fm2 eW y2z tk2z rp hz=>?_) (hfs env)
 refine nn fun gN=>?_
 subst eW
 obtain ⟨b,vb,fb,hxl,rx⟩:=QR rp
 refine gN ?_
 refine vCT hxl ?_
 refine nn fun gN=>?_
 obtain ⟨fpw,W,hW,h0,hfp,hfp',hWI⟩:=qn (prog:=c0z.prog) (w:=c0z.w) (hm:=false) (A:=A) y2z.rm.hm hxl
 rw [(by simpa using rx.length:vb.size = xs.length)] at hW
 have hp:=St.push (c:=c2z) (L:=env.locals) (s:=s2z) y2z.iv.rd.bs (xe b)
 have hIn:s2z.heap.get? s2z.heap.objs.size = none:=Jq _
 have hI0:h2z.get? s2z.heap.objs.size = none:=y2z.iv.fresh hIn
 have hImu:s2z.heap.objs.size ∉ c2z.mu:=fun q=>by
  obtain ⟨o,_,w,_⟩:=y2z.wd.km _ q
  rw [y2z.iv.rd.bs.1 _ o w] at hIn;exact son hIn
 have hIM:¬ Mut env Z1z vf s2z.heap.objs.size:=by
  obtain ⟨m,hn⟩:=y2z.iv.rd.ns
  rintro (q | ⟨y,hy⟩ | ho)
  ·obtain ⟨o',_,_,z,_⟩:=hn;rw [<- q,hIn] at z;exact nos z
  ·obtain ⟨_,v,o',z1,z2⟩:=y2z.iv.ce y _ hy;rw [hIn] at z1;exact nos z1
  ·obtain ⟨⟨o',_,_,z,_⟩,_⟩:=ho.lst y2z.iv;rw [hIn] at z;exact nos z
 generalize s2z.heap.objs.size = I at *
 refine gN ?_
 refine codeAny_forLoop_any (fun k s'=>TInv c0z c1z sE n A l f0 env nm c2z h2z Z1z vf s2z I W (jDL fB ix) r xs s' k) ?_ (xs.length + 1) (TInv.mk (i:=0) fm2 (y2z.st hp) (Tk.stp (y2z.iv.step hp)) h0 e4 (vBz _) hIM hImu hI0 rfl)
 rintro k s' ⟨fmi,yi,t,hWi,hl,hi,h1,h2,h3,hkk⟩
 rename_i i ci hi0z Ziz vfi
 by_cases hlt:i < xs.length
 ·refine wpAny_with_toks yi.iv.rd.bs.2 (hW.item i _ _ _ hlt hWi fun v h3z tk3z hPv hW3 hk3z ht3=>?_)
  refine nn fun gN=>?_
  have t3:=t.iter (tk:=tk3z) hIn hk3z
  obtain ⟨d,hd⟩:∃ d,xs[i]? = some d:=⟨xs[i],by simp [hlt]⟩
  rw [List.drop_eq_getElem_cons hlt] at hl
  rw [(by have:=vBP hlt;rw [hd] at this;exact (vAy this).symm:xs[i] = d),vj] at hl
  obtain ⟨v',g,k1,k2,k3⟩:=rx.get hd
  obtain rfl:v = v':=by
   exact vAy (hPv.symm.trans (by simpa using k1:vb[i]? = some v'))
  refine gN ?_
  refine vBM (vCU ((yi.iter (hWI i _ hWi) h1 hk3z ht3 h3).store fmi (t3.rp y2z (by rw [fmi.mgE,fm2.mgE]) k2 (fun a ha=>hz a (vBC _ (k3 a ha)):∀ a ∈ g,Fz c2z a)) (fun a ha=>t3.fz a ((fun a ha=>hz a (vBC _ (k3 a ha)):∀ a ∈ g,Fz c2z a) a ha)) hsF.1 hx hk ho fun s4z vf4 y4 t4=>?_))
  refine nn fun gN=>?_
  obtain ⟨oI,TI,iI1,iI2,iI3,iI4,iI5⟩:=id (hWI (i + 1) _ hW3:ItObj h3z I)
  obtain ⟨ob,hb1,_,kb,hb3⟩:=id hxl
  obtain ⟨hb4,hb5,hb6⟩:=t3.kp b ob hb1 (JK hb3) (y2z.fzOut (hz b (vBA ..):Fz c2z b)).1 (y2z.fzOut (hz b (vBA ..):Fz c2z b)).2
  refine gN ?_
  cases hfb:fB ci.sg (Ziz.set ix (some (d,JZ d))) with
  | none=>rw [hfb] at hl;exact nos hl
  | some o =>
   rw [hfb] at hl
   refine hB c1z sE A l f0 env ci hi0z _ vf4 s4z o _ _ fmi hsF y4 hfb fun w s5 p=>?_
   cases o with
   | next Z' W' =>
    cases w <;> first | exact p.elim | skip
    refine nn fun gN=>?_
    obtain ⟨vf5,c5,h5,fm5,e5,y5,t5⟩:=p
    subst e5
    have t35:=t4.trans t5
    obtain ⟨q1,q2,q3⟩:=t35.kp I oI iI1 iI2 h1 h2
    refine gN ?_
    refine ⟨xs.length + 1 - (i + 1),by rw [hkk];exact Nat.sub_lt_sub_left (Nat.lt_succ_of_lt hlt) (vCd i),.mk fm5 y5 (t3.trans t35) ?_ hl hlt q2 q3 (t35.it I (hWI (i + 1) _ hW3:ItObj h3z I) h1 h2 h3) rfl⟩
    refine hW.frame _ _ _ hW3 fun b' hb' o' e'=>?_
    rcases hfp' rfl b' hb' with q | q
    ·obtain rfl:=q.symm
     rw [iI1] at e';obtain rfl:=vAy e';exact q1
    ·obtain rfl:=q.symm
     rw [hb4] at e';obtain rfl:=vAy e'
     exact (t35.kp _ _ hb4 (JK hb3) hb5 hb6).1
   | brk Z' W' =>
    cases w <;> first | exact p.elim | skip
    exact hQ _ _ (by rw [<- (vAy hl)];exact (PostT.back tk2z (PostT.back (t3.trans t4) (o:=.next Z' W') (w:=.next) p)))
   | ret d' W' =>
    cases w <;> first | exact p.elim | skip
    exact hQ _ _ (by rw [<- (vAy hl)];exact (PostT.back tk2z (PostT.back (t3.trans t4) p)))
 ·refine nn fun gN=>?_
  rw [(vCI hi (vBy hlt):i = xs.length),List.drop_length] at hl
  refine gN ?_
  refine wpAny_with_toks yi.iv.rd.bs.2 (hW.done _ _ _ ((vCI hi (vBy hlt):i = xs.length) ▸ hWi) fun h3z tk3z hk3z ht3=>?_)
  exact vBp (hQ _ _ (by rw [<- (vAy hl)];exact (PostT.back (o:=.next Ziz ci.sg) (w:=.next) tk2z ⟨vfi,ci,hi0z,fmi,rfl,yi.iter (hWI i _ hWi) h1 hk3z ht3 h3,t.iter hIn hk3z⟩)))
theorem qKN {hd:ExceptHandler} {hs:List ExceptHandler} {f:Te} (hB:jNK c0z hm n sc nm body f):jVN c0z hm n sc nm (.Try body (hd :: hs) [] [] pos) f:=by
 intro c1z sE A l f0 env c h0z Z vf s r Q E fm hsF y hf hQ
 refine wpAny_Try_except (hB c1z sE A l f0 env c h0z Z vf s r _ _ fm hsF y hf fun w s' p=>?_)
 cases r <;> cases w <;> first | exact p.elim | exact vBp (hQ _ _ p) | exact hQ _ _ p
def fnT (np k:Nat) (f:Te) (Wz:Sg) (ds:List D):Option (D × Sg):=if ds.length = np then (match f Wz (Xm k ds) with
  | some (.ret d W')=>some (d,W')
  | some (.next _ W')=>some (.none,W')
  | _=>none) else none
theorem Zi {np:Nat} {f:Te} (h:jNK c0z hm n sc nm body f):qDR c0z hm n sc nm body k np (fnT np k f):=by
 intro c A l s ds fp d W' fm hU
 obtain ⟨hlen,hU⟩:=ifs hU
 ·refine ⟨hlen,fun env vf s1z Q E hsc y kE=>?_⟩
  rcases q:f c.sg (Xm k ds) with _ | o <;> rw [q] at hU
  ·exact nos hU
  cases o <;> first | exact nos hU | skip
  rotate_left
  ·cases vAy hU
   refine h c s A l fp env c s.heap (Xm k ds) vf s1z _ Q E fm hsc y q fun w s' p=>?_
   cases w <;> first | exact p.elim | skip
   obtain ⟨c',fp',g,e,r,z⟩:=p
   exact kE _ c' _ fp' s' (.inl rfl) g e r z
  ·cases vAy hU
   refine h c s A l fp env c s.heap (Xm k ds) vf s1z _ Q E fm hsc y q fun w s' p=>?_
   cases w <;> first | exact p.elim | skip
   obtain ⟨vf',c',h',fm',e',y',_⟩:=p
   exact kE .next c' .none [] s' (.inr ⟨rfl,rfl⟩) y'.fin e' .none fun _ h=>nomatch h
end
section
variable {n:Nat} {s:Shared}
theorem kg:kn c hm n sc nm body (fun _=>none):=fun _ _ _ _ _ _ _ _ _ _ _ _ _ _ hf=>nos hf
theorem qKL {f g:Ti} (h1:jFX c0z hm n sc nm e f) (h2:jFX c0z hm n sc nm e g):jFX c0z hm n sc nm e (fun Wz Z=>(f Wz Z).or (g Wz Z)):=by
 intro c1z sE A l f0 env c h0z Z vf s d W' Z' Q E fm hsc y hf hQ
 dsimp only at hf
 cases hf1:f c.sg Z with
 | some x=>rw [hf1] at hf;exact h1 c1z sE A l f0 env c h0z Z vf s d W' Z' Q E fm hsc y (hf1.trans hf) hQ
 | none=>rw [hf1] at hf;exact h2 c1z sE A l f0 env c h0z Z vf s d W' Z' Q E fm hsc y hf hQ
def jXQ (Wz:Sg) (j:Nat) (Z:G):Option (R Bool):=atO Z j fun a=>(Wz.pg a).bind fun p=>JR (eqF [.list p.p,.list []]) fun d=>(Qp d.1).map .ok
theorem jML {v:Str} {pp lp:Pos} (hw:Wd c) (pc:Pc c P ix K C) (hv:autoParam (nm[j]? = some v) yL) (hmk:autoParam (behindInMarks .Eq (.List [] lp) = false) yK) :
  DenB c hm n sc nm (.Compare (.Attribute (.Name v np) "past" pp) [.Eq] [.List [] lp] pos) (jXQ c.sg j):=by
 intro A l env Z vf s r Q E hsc hR hRd hf hQ hE
 ·refine nn fun gN=>?_
  obtain ⟨a,la,hj,hf⟩:=Zk hf
  obtain ⟨p,hp,hf⟩:=vBG.mp hf
  obtain ⟨y1,z1,z2,z3⟩:=hRd.var j (.ob a) la hj
  refine gN ?_
  clear gN
  rw [hv] at z1;obtain rfl:=vAy z1
  refine nn fun gN=>?_
  rw [(jy z3).1] at z2
  obtain ⟨pa,vs,fq,q1,q2,q3,q4,q5,_⟩:=jCA (ps:=[]) hRd.bs hw hp
  obtain ⟨m,hn⟩:=hRd.ns
  refine gN ?_
  clear gN
  refine wpAny_isTrue_Compare1 (Attribute_Name_ (XS hRd.fn z2 (jJC hRd.bs.1 hw pc hp q1 ?_))) hmk
  refine (JV JD).ok hsc (hR.keep (St.tok hRd.bs 1:St c env.locals s { s with toks:=s.toks + 1 }).kp hn) (hRd.keep (St.tok hRd.bs 1:St c env.locals s { s with toks:=s.toks + 1 })) rfl (fun v2 fp2 s2 st2 rp2 tr2 lvl2=>?_)
  refine nn fun gN=>?_
  have st:=(St.tok hRd.bs 1:St c env.locals s { s with toks:=s.toks + 1 }).trans st2
  have hR2:=hR.keep st.kp hn
  have hRd2:=hRd.keep st
  obtain ⟨m2,hn2⟩:=hRd2.ns
  obtain ⟨o,o1,o2,k,o3⟩:=q2
  have rpa:Rp c.mg s2.heap (.ref pa) (.list p.p) (pa :: fq):=.list (st.kp.keep hn o1 (JK o3)) o2 o3 (q4.keep fun b o e _=>st.bs.1 b o e)
  refine gN ?_
  clear gN
  rcases J6 hf with ⟨⟨d,lv⟩,h5,h6⟩ | ⟨k,h5,rfl⟩
  ·refine op_eq.ok (vs:=[.ref pa,v2]) (ds:=[.list p.p,.list []]) hR2 hn2 hRd2.nb hRd2.bs (Rps.two rpa rp2) h5 (fun v fp s3z st3z rp tr lvl=>?_)
   obtain ⟨bb,hb,rfl⟩:=vBD.mp h6
   exact Qs st3z.bs rp hb fun s' st'=>hQ _ _ rfl (st.trans (st3z.trans st'))
  ·exact op_eq A l env.locals m2 s2 [.ref pa,v2] [.list p.p,.list []] (pa :: fq ++ fp2) _ _ E hR2 hn2 hRd2.nb hRd2.bs (Rps.two rpa rp2) h5 (fun v d' lv' fp s3z e=>rnx e) (fun x k' s' e fl=>by cases e;exact hE x k s' rfl (fl.back st hn))
theorem zH {s:Shared} {l:Addr} {Q:Value × List Value -> Shared -> Prop} (ho:s.heap.get? l = some o) (hc:o.cls = .type "list") (hd:o.dict = none)
  (h:Q (.builtin "list.pop",[.ref l]) s):wpAny M A (getMethod (.ref l) "pop" pl) Q E s:=by
 unfold getMethod
 refine vBE (wpAny_specialOf (⟨o,ho,hc⟩:s.TypeIs (.ref l) "list") list_getattribute ?_)
 show wpAny M A (if (Manifest.canonical "list.__getattribute__" != "object.__getattribute__") = true then _ else _) Q E s
 rw [canon_list_getattribute,if_neg vCo]
 refine vBE (wpAny_specialOf (⟨o,ho,hc⟩:s.TypeIs (.ref l) "list") list_getattr_none ?_)
 refine vBE (wpAny_specialOf (⟨o,ho,hc⟩:s.TypeIs (.ref l) "list") F.slot_list_pop.lookup ?_)
 refine vBE (wpAny_of_eq F.type_list_pop ?_)
 refine vBE (wpAny_load ho ?_)
 rw [hd]
 exact vBE (wpAny_rule (vBM h))
theorem jXN (l:Addr) (items:Array Value) (n:Nat) (y:Value) (dd:Option Addr) (sl:Array (Option Value)) (hy:items[items.size - 1]? = some y) (hs1:items.size <= sizeLine) :
  Meets (Builtin.«list.pop» ⟨[.ref l],[]⟩)
   (fun _ R s=>s.heap.get? l = some { cls:=.type "list",dict:=dd,data:=.seq items n,slots:=sl } /\ R (.ok (.ret y)) { s with heap:=s.heap.update l (Obj.mapSeq fun xs=>xs.eraseIdxIfInBounds (items.size - 1)) }) :=
 .of_wp fun prog w A R s h=>by
  refine nn fun gN=>?_
  obtain ⟨hp,g,d,tk,os⟩:=s;obtain ⟨hl,h⟩:=h
  have hpos:0 < items.size:=by
   rcases Nat.eq_zero_or_pos items.size with h0 | h0
   ·simp [h0] at hy
   ·exact h0
  have hne:¬ items.isEmpty = true:=by
   intro he;have:items.size = 0:=by simpa using he
   exact absurd hpos (Nat.not_lt.mpr (vBs this))
  have hk:seqIndex? (-1) items.size = some (items.size - 1):=by
   rw [MeetsSeq.seqIndex_neg (Int.lt_succ _) (show 0 <= -1 + (items.size:Int) from lZ [_] (.n 0) (.a (.g (.n 1)) (.v 0)) [(.n 1,.v 0)] rT (zL hpos))];exact congrArg some (by rw [Int.add_comm];exact Int.toNat_sub items.size 1)
  refine gN ?_
  wp_walk using vCj hl
  simp only [hk,hy,Option.bind_some,Option.map_some]
  wp_walk using (wpAny_updateSeq hl rfl (hz:=hs1) (_hz':=(vAz (size_erased items _) (Nat.le_succ_of_le hs1):(items.eraseIdxIfInBounds (items.size - 1)).size <= sizeLine + 1))),vCj hl
  exact ⟨_,rfl,h⟩
def qNR (Wz:Sg) (j:Nat) (Z:G):Option (D × Sg × G):=atO Z j fun a=>(Wz.pg a).bind fun p=>(p.p.getLast?).bind fun d=>if p.p.length <= lim then some (d,XH Wz a { p with p:=p.p.dropLast },Z) else none
theorem qKI {v:Str} {pp:Pos} (pc0:Pc c0z P ix K C) (hv:autoParam (nm[j]? = some v) yL) (hmf:autoParam (Xi (.Attribute (.Name v np) "past" pp) "pop" ap [] pos) yM) :
  jFX c0z hm n sc nm (.Call (.Attribute (.Attribute (.Name v np) "past" pp) "pop" ap) [] [] pos) (fun Wz Z=>qNR Wz j Z):=by
 intro c1z sE A l f0 env c h0z Z vf s d W' Z' Q E fm hsc y hf hQ
 ·refine nn fun gN=>?_
  obtain ⟨a,la,hj,hf⟩:=Zk hf
  obtain ⟨p,hp,hf⟩:=vBG.mp hf
  obtain ⟨d',hd,hf⟩:=vBG.mp hf
  obtain ⟨hlen,hf⟩:=ifs hf
  refine gN ?_
  ·skip
   cases vAy hf
   refine nn fun gN=>?_
   obtain ⟨ini,hini⟩:=List.getLast?_eq_some_iff.mp hd
   obtain ⟨y1,z1,z2,z3⟩:=y.iv.rd.var j (.ob a) la hj
   refine gN ?_
   rw [hv] at z1;obtain rfl:=vAy z1
   refine nn fun gN=>?_
   rw [(jy z3).1] at z2
   obtain ⟨pa,vs,fq,q1,q2,q3,q4,q5,q6⟩:=jCA (ps:=p.p.dropLast) (y.st (St.tok y.iv.rd.bs 1:St c env.locals s { s with toks:=s.toks + 1 })).iv.rd.bs y.wd hp
   obtain ⟨k,sl,hobj⟩:=vm q2 q3
   refine gN ?_
   rw [<- fm.md]
   refine MethodCall_ (Attribute_Name_ (XS y.iv.rd.fn z2 (jJC y.iv.rd.bs.1 y.wd (fm.pc pc0) hp q1 (zH (s:={ s with toks:=s.toks + 1 }) hobj rfl rfl ?_)))) (hmf env)
   refine nn fun gN=>?_
   rw [hini] at q4
   obtain ⟨vs0,w,t0,f,e1,e2,r1,r2⟩:=q4.snoc_inv
   have hsz:vs.size = vs0.length + 1:=by
    simpa using (congrArg List.length e1)
   have hw:vs[vs.size - 1]? = some w:=by
    rw [<- Array.getElem?_toList,e1,hsz]
    simp
   have her:(vs.eraseIdxIfInBounds (vs.size - 1)).toList = vs0:=by
    rw [Array.toList_eraseIdxIfInBounds,e1,hsz]
    simp [List.eraseIdx_append_of_length_le]
   refine gN ?_
   refine seqMethod0_meets F.slot_list_pop F.entry_list_pop ⟨_,hobj,rfl⟩ (F.args_list_pop_1 _) (jXN pa vs k w none sl hw (by rw [hsz,<- (by rw [hini,vBO,<- r1.length];rfl:p.p.length = vs0.length + 1)];exact vAz hlen (by decide))) ⟨hobj,?_⟩
   refine nn fun gN=>?_
   obtain ⟨k',hd'⟩:=Obj.data_mapSeq (o:={ cls:=.type "list",data:=.seq vs k,slots:=sl }) rfl (fun xs:Array Value=>xs.eraseIdxIfInBounds (vs.size - 1))
   have hg:=vBf (h:=s.heap) (Obj.mapSeq fun xs=>xs.eraseIdxIfInBounds (vs.size - 1)) hobj (Obj.isFreed_of_seq hd')
   obtain ⟨c',g,e'⟩:=q6 _ (vs.eraseIdxIfInBounds (vs.size - 1)) t0 (vBo ..:Heap.SameBut pa s.heap (s.heap.update pa (Obj.mapSeq fun xs=>xs.eraseIdxIfInBounds (vs.size - 1)))) ⟨_,hg,Obj.cls_mapSeq ..,k',hd'⟩ ⟨_,_,k',hg,hd',rfl⟩ (by rw [her,(by rw [hini,List.dropLast_concat]:p.p.dropLast = ini)];exact r1) (fun b hb=>(q5.1 b (by rw [e2];exact vBU _ hb)).2) (s.toks + 1) (vBr _)
   refine gN ?_
   refine hQ w f c' _ _ (fm.go g) e' ((y.st (St.tok y.iv.rd.bs 1:St c env.locals s { s with toks:=s.toks + 1 })).no g) ((Tk.stp (y.iv.step (St.tok y.iv.rd.bs 1:St c env.locals s { s with toks:=s.toks + 1 }))).trans (Tk.no g (y.st (St.tok y.iv.rd.bs 1:St c env.locals s { s with toks:=s.toks + 1 })).iv.bh)) ?_ fun b hb=>g.fz ((fun b hb=>q5.1 b (by rw [e2];exact vBQ _ hb):∀ b ∈ f,Fz c b) b hb)
   rw [(by obtain ⟨_,_,_,z⟩:=g.cx;rw [z]:c'.mg = c.mg)]
   exact (r2.keep fun b o e _=>y.iv.rd.bs.1 b o e:Rp c.mg s.heap w d f).keepOn (W:=(· = pa)) (fun b o hb e _=>(vBo ..:Heap.SameBut pa s.heap (s.heap.update pa (Obj.mapSeq fun xs=>xs.eraseIdxIfInBounds (vs.size - 1)))).extBut b o hb e) (fun b o hb e=>⟨"list",by obtain rfl:=hb.symm;rw [hobj] at e;obtain rfl:=vAy e;rfl,by decide⟩) fun pa hb q=>((fun b hb=>q5.1 b (by rw [e2];exact vBQ _ hb):∀ b ∈ f,Fz c b) pa hb).2 (q ▸ q5.2)
theorem Wd.setHd (hw:Wd c) {xs:List D} (ha:c.sg.hd H = some xs) (b':Heap) (xs':List D) (hk:∀ b o,b ≠ H -> c.base.get? b = some o -> b'.get? b = some o) (hH:HdA c.mg b' c.mu H xs'):Wd { c with base:=b',sg:=Xr c.sg H xs' }:=by
 refine nn fun gN=>?_
 obtain ⟨dx,pa,w1,w2,w3⟩:=hw.pg
 obtain ⟨k0,vs0,sl0,fp0,g1,g2,g3,g4⟩:=hw.hd H xs ha
 obtain ⟨k1,vs1,sl1,fp1,i1,i2,i3,i4⟩:=id hH
 refine gN ?_
 refine ⟨fun b hb=>?_,fun b o hb e vs=>?_,⟨dx,pa,fun a p e=>(w1 a p e).but hk g4 (⟨_,"list",g1,rfl,by decide⟩:∃ o T,c.base.get? H = some o /\ o.cls = .type T /\ T ≠ "tuple") ?_ ?_,w2,fun a p H' xs1 e1 e2=>?_⟩,fun H' xs1 e=>?_⟩
 ·by_cases q:b = H
  ·obtain rfl:=q.symm;exact ⟨_,"list",i1,rfl,by decide⟩
  ·obtain ⟨o,T,z1,z2,z3⟩:=hw.km b hb;exact ⟨o,T,hk b o q z1,z2,z3⟩
 ·have e:b'.get? b = some o:=e
  by_cases q:b = H
  ·obtain rfl:=q.symm;rw [i1] at e;obtain rfl:=vAy e;exact fun q=>by cases q
  ·obtain ⟨o',T,z1,_⟩:=hw.km b hb
   rw [hk b o' q z1] at e;obtain rfl:=vAy e;exact hw.kf b o' hb z1 vs
 ·exact jIU (w1 a p e).kinds.1 ⟨_,g1,rfl⟩
 ·exact w3 a p H xs e ha
 ·by_cases q:H' = H
  ·obtain rfl:=q.symm;exact w3 a p H xs e1 ha
  ·unfold Xr at e2;dsimp only at e2;rw [if_neg q] at e2;exact w3 a p H' xs1 e1 e2
 ·by_cases q:H' = H
  ·subst q
   have e:(Xr c.sg H' xs').hd H' = some xs1:=e
   rw [xh] at e;obtain rfl:=vAy e;exact hH
  ·have e:(Xr c.sg H xs').hd H' = some xs1:=e
   unfold Xr at e;dsimp only at e;rw [if_neg q] at e
   exact (hw.hd H' xs1 e).but hk g4 (⟨_,"list",g1,rfl,by decide⟩:∃ o T,c.base.get? H = some o /\ o.cls = .type T /\ T ≠ "tuple") q
def jPL (occ:List Nat) (j:Nat) (f:Sg -> Tg) (Wz:Sg) (Z:G):Option OT:=atO Z j fun H=>(Wz.hd H).bind fun xs=>okV (f Wz Z) fun d=>if d.plain && decide (xs.length + 1 <= lim) then some (.next (JX occ Z) (Xr Wz H (xs ++ [d]))) else none
theorem jJV {v:Str} {f:Sg -> Tg} (h:∀ c,Fam c0z c -> Den c hm n sc nm e occ (f c.sg)) (hv:autoParam (nm[j]? = some v) yL) (hst:autoParam (QC e) yN)
  (hi:autoParam (∀ env:Env,env.scope = sc -> interactive env = false) yE) (hmf:autoParam (Xi (.Name v np) "append" ap [e] cp) yM) :
  jVN c0z hm n sc nm (.Expr (.Call (.Attribute (.Name v np) "append" ap) [e] [] cp) pos) (jPL occ j f):=by
 intro c1z sE A l f0 env c h0z Z vf s r Q E fm hs y hf hQ
 ···refine nn fun gN=>?_
    obtain ⟨H,la,hj,hf⟩:=Zk hf
    obtain ⟨xs,hx,hf⟩:=vBG.mp hf
    obtain ⟨d,lv,hd,hf⟩:=jCB hf
    obtain ⟨hc,hf⟩:=ifs hf
    obtain rfl:=vAy hf
    obtain ⟨hpl,hlen⟩:=XM hc
    have hlen:=vCs hlen
    obtain ⟨y1,z1,z2,z3⟩:=y.iv.rd.var j (.ob H) la hj
    refine gN ?_
    rw [hv] at z1;obtain rfl:=vAy z1
    refine nn fun gN=>?_
    rw [(jy z3).1] at z2
    obtain ⟨k0,vs0,sl0,fp0,g1,g2,g3,g4⟩:=y.wd.hd H xs hx
    refine gN ?_
    rw [<- fm.md]
    refine vCZ ?_ (hi env hs.1)
    refine MethodCall_ (XS y.iv.rd.fn z2 (getMethod_list_append (y.iv.rd.bs.1 _ _ g1) rfl rfl ?_)) (hmf env)
    refine callWith_method1 (args_cons ?_ (hst _ _)) (hst _ _)
    refine (h c fm).ok hs.1 y.rm y.iv.rd hd (fun vv fp s1z st rp tr lvl=>?_)
    refine vCg ?_
    refine nn fun gN=>?_
    obtain ⟨c',h',⟨_,g⟩,eW,hz,hr,y',tk⟩:=y.frzK st tr (fun b hb=>rp.fp_list b hb)
    obtain ⟨b,mu,sg,ec⟩:=g.cx
    have hmg:c'.mg = c.mg:=by rw [ec]
    obtain ⟨k,vs,sl,fq,i1,i2,i3,i4⟩:=y'.wd.hd H xs (by rw [eW];exact hx:c'.sg.hd H = some xs)
    refine gN ?_
    refine Z7 (x:=vv) ⟨_,(y'.iv.rd.bs.1 _ _ i1),rfl,k,rfl⟩ ⟨_,vs,k,(y'.iv.rd.bs.1 _ _ i1),rfl,rfl⟩ (fun h'' hl' hn' hs'=>?_) (by rw [(by simpa using i2.length:vs.size = xs.length)];unfold lim at hlen;unfold sizeLine;exact vAz (vAz (vCW _) hlen) (by decide))
    obtain ⟨k',sl',hobj⟩:=vm hl' hn'
    have hk:∀ b o,b ≠ H -> c'.base.get? b = some o -> (cut (fun b=>c'.base.get? b ≠ none) h'').get? b = some o:=fun b o hb e=>by
     rw [Qq (by rw [e];exact fun q=>nomatch q),hs'.2 b hb];exact y'.iv.rd.bs.1 b o e
    have kt:∀ b o,b = H -> c'.base.get? b = some o -> ∃ T,o.cls = .type T /\ T ≠ "tuple":=fun b o z e=>by
     obtain rfl:=z.symm;rw [i1] at e;obtain rfl:=vAy e;exact ⟨"list",rfl,by decide⟩
    have r2:Rps c'.mg c'.base (vs.push vv).toList (xs ++ [d]) (fq ++ fp):=by
     rw [Array.toList_push];exact i2.append (Rps.one (hr rp (fun _ h=>h) hpl))
    have hA:HdA c'.mg (cut (fun b=>c'.base.get? b ≠ none) h'') c'.mu H (xs ++ [d]) :=
     ⟨k',vs.push vv,sl',fq ++ fp,(by rw [Qq (by rw [i1];exact fun q=>nomatch q:c'.base.get? H ≠ none)];exact hobj:(cut (fun b=>c'.base.get? b ≠ none) h'').get? H = some { cls:=.type "list",data:=.seq (vs.push vv) k',slots:=sl' }),r2.keepOn (W:=(· = H)) (fun b o z e _=>hk b o z e) kt (fun b hb z=>(fun b hb=>(vBK.mp hb).elim (i3 b) fun q=>(hz b q).2:∀ b ∈ fq ++ fp,b ∉ c'.mu) b hb (z ▸ i4)),(fun b hb=>(vBK.mp hb).elim (i3 b) fun q=>(hz b q).2:∀ b ∈ fq ++ fp,b ∉ c'.mu),i4⟩
    have g':=jWL (sg':=Xr c'.sg H (xs ++ [d])) y'.iv.rd.bs i4 hs' hobj y'.iv.rd.bs.2 (y'.wd.setHd (by rw [eW];exact hx:c'.sg.hd H = some xs) _ _ hk hA)
    exact hQ _ _ ⟨vf,_,_,(fm.go g).go g',by rw [eW],y'.no g',tk.trans (Tk.no g' y'.iv.bh)⟩
def jTW (occ:List Nat) (j:Nat) (x:Str) (f:Sg -> Tg) (Wz:Sg) (Z:G):Option OT:=atO Z j fun a=>(Wz.pg a).bind fun p=>okV (f Wz Z) fun d=>if d.plain && (x == "kept" || (x == "wide" && d.flat)) then some (.next (JX occ Z) (XH Wz a (if x = "kept" then { p with k:=d } else { p with w:=d }))) else none
theorem jTC {v:Str} {f:Sg -> Tg} (pc0:Pc c0z P ix K C) (h:∀ c,Fam c0z c -> Den c hm n sc nm e occ (f c.sg)) (hv:autoParam (nm[j]? = some v) yL)
  (hsw:autoParam (∀ env:Env,env.scope = sc -> swapsWith e (some (.Attribute (.Name v np) x tp)) pos.line env = pure false) yN):jVN c0z hm n sc nm (.Assign [.Attribute (.Name v np) x tp] e pos) (jTW occ j x f):=by
 intro c1z sE A l f0 env c h0z Z vf s r Q E fm hs y hf hQ
 obtain ⟨a,la,hj,hf⟩:=Zk hf
 obtain ⟨p,hp,hf⟩:=vBG.mp hf
 obtain ⟨d,lv,hd,hf⟩:=jCB hf
 obtain ⟨hc,hf⟩:=ifs hf
 ···skip
    obtain rfl:=vAy hf
    obtain ⟨hpl,hx⟩:=XM hc
    rw [<- fm.md]
    refine plainObj_wpAny_Assign_Attribute ((h c fm).ok hs.1 y.rm y.iv.rd hd (fun vv fp s1z st rp tr lvl=>?_)) (hsw env hs.1)
    refine nn fun gN=>?_
    obtain ⟨c',h',⟨_,g⟩,eW,hz,hr,y',tk⟩:=y.frzK st tr (fun b hb=>rp.fp_list b hb)
    obtain ⟨l',hl'⟩:=qCW (occ:=occ) hj
    obtain ⟨y1,z1,z2,z3⟩:=y'.iv.rd.var j (.ob a) l' hl'
    refine gN ?_
    clear gN
    rw [hv] at z1;obtain rfl:=vAy z1
    refine nn fun gN=>?_
    rw [(jy z3).1] at z2
    obtain ⟨b,mu,sg,ec⟩:=g.cx
    subst ec
    refine gN ?_
    clear gN
    refine XS y'.iv.rd.fn z2 (qBP (c:={ c with base:=b,mu:=mu,sg:=sg }) y'.iv.rd.bs y'.wd ((fm.go g).pc pc0) (show _ = some p by rw [eW];exact hp) ?_ (hr rp (fun _ h=>h) hpl) fun c'' s'' g' e'=>hQ _ _ ⟨vf,c'',_,(fm.go g).go g',by rw [e',eW],y'.no g',tk.trans (Tk.no g' y'.iv.bh)⟩)
    simp only [vCD,vBR,vBc] at hx
    rcases hx with rfl | ⟨rfl,hfl⟩
    ·exact .inl ⟨rfl,hz⟩
    ·exact .inr ⟨rfl,rp.flat_fp hfl⟩
def jSH (occ:List Nat) (j:Nat) (f:Sg -> Tg) (Wz:Sg) (Z:G):Option OT:=atO Z j fun a=>(Wz.pg a).bind fun p=>okV (f Wz Z) fun d=>if d.plain && decide (p.p.length + 1 <= lim) then some (.next (JX occ Z) (XH Wz a { p with p:=p.p ++ [d] })) else none
theorem qHI {v:Str} {pp:Pos} {f:Sg -> Tg} (pc0:Pc c0z P ix K C) (h:∀ c,Fam c0z c -> Den c hm n sc nm e occ (f c.sg)) (hv:autoParam (nm[j]? = some v) yL) (hst:autoParam (QC e) yN)
  (hi:autoParam (∀ env:Env,env.scope = sc -> interactive env = false) yE) (hmf:autoParam (Xi (.Attribute (.Name v np) "past" pp) "append" ap [e] cp) yM) :
  jVN c0z hm n sc nm (.Expr (.Call (.Attribute (.Attribute (.Name v np) "past" pp) "append" ap) [e] [] cp) pos) (jSH occ j f):=by
 intro c1z sE A l f0 env c h0z Z vf s r Q E fm hs y hf hQ
 ···refine nn fun gN=>?_
    obtain ⟨a,la,hj,hf⟩:=Zk hf
    obtain ⟨p,hp,hf⟩:=vBG.mp hf
    obtain ⟨d,lv,hd,hf⟩:=jCB hf
    obtain ⟨hc,hf⟩:=ifs hf
    obtain rfl:=vAy hf
    obtain ⟨hpl,hlen⟩:=XM hc
    have hlen:=vCs hlen
    obtain ⟨y1,z1,z2,z3⟩:=y.iv.rd.var j (.ob a) la hj
    refine gN ?_
    rw [hv] at z1;obtain rfl:=vAy z1
    refine nn fun gN=>?_
    rw [(jy z3).1] at z2
    obtain ⟨pa,vs,fq,q1,q2,q3,_⟩:=jCA (ps:=p.p ++ [d]) y.iv.rd.bs y.wd hp
    obtain ⟨o,_,o1,o2,_,o4⟩:=IsList.get q2 q3
    refine gN ?_
    rw [<- fm.md]
    refine vCZ ?_ (hi env hs.1)
    refine MethodCall_ (Attribute_Name_ (XS y.iv.rd.fn z2 (jJC y.iv.rd.bs.1 y.wd (fm.pc pc0) hp q1 (getMethod_list_append (s:={ s with toks:=s.toks + 1 }) o1 o2 o4 ?_)))) (hmf env)
    refine callWith_method1 (args_cons ?_ (hst _ _)) (hst _ _)
    refine (h c fm).ok hs.1 (y.st (St.tok y.iv.rd.bs 1:St c env.locals s { s with toks:=s.toks + 1 })).rm (y.st (St.tok y.iv.rd.bs 1:St c env.locals s { s with toks:=s.toks + 1 })).iv.rd hd (fun vv fp s1z st rp tr lvl=>?_)
    refine vCg ?_
    refine nn fun gN=>?_
    obtain ⟨c',h',⟨_,g⟩,eW,hz,hr,y',tk⟩:=(y.st (St.tok y.iv.rd.bs 1:St c env.locals s { s with toks:=s.toks + 1 })).frzK st tr (fun b hb=>rp.fp_list b hb)
    obtain ⟨b,mu,sg,ec⟩:=g.cx
    subst ec
    obtain ⟨pa',vs',fq',w1,w2,w3,w4,w5,w6⟩:=jCA (c:={ c with base:=b,mu:=mu,sg:=sg }) (ps:=p.p ++ [d]) y'.iv.rd.bs y'.wd (show _ = some p by rw [eW];exact hp)
    obtain rfl:pa = pa':=(q1.keeps st.bs.1).uniq (w1.keeps y'.iv.rd.bs.1)
    refine gN ?_
    refine Z7 w2 w3 (fun h' hl' hn' hs'=>?_) (by rw [(by simpa using w4.length:vs'.size = p.p.length)];unfold lim at hlen;unfold sizeLine;exact vAz (vAz (vCW _) hlen) (by decide))
    obtain ⟨c'',g',e'⟩:=w6 h' (vs'.push vv) (fq' ++ fp) hs' hl' hn' (by rw [Array.toList_push];exact w4.append (Rps.one (hr rp (fun _ h=>h) hpl))) (fun b hb=>(vBK.mp hb).elim (fun q=>(w5.1 b q).2) (fun q=>(hz b q).2)) s1z.toks y'.iv.rd.bs.2
    exact hQ _ _ ⟨vf,c'',_,(fm.go g).go g',by rw [e',eW],y'.no g',(Tk.stp (y.iv.step (St.tok y.iv.rd.bs 1:St c env.locals s { s with toks:=s.toks + 1 }))).trans (tk.trans (Tk.no g' y'.iv.bh))⟩
def qCG (Wz:Sg) (a:D × Nat):Tj:=match a.1 with
 | .ob x=>if (Wz.pg x).isSome then okB true else none
 | _=>none
theorem qFN {w:World} {s:Shared} {x:Addr} {dep:Int} {tk:Tok} {Q:Fin -> Shared -> Prop} (I:PySem.W.InstAt s.heap x ox C od) (h:Q (.done (.ret (.bool true))) s) :
  wpAny (model prog w) A (Builtin.«isinstance.nested» ⟨[.ref x,.ref C,.int dep tk],[]⟩) Q E s:=by
 refine nn fun gN=>?_
 obtain ⟨h0,g,d,tt,os⟩:=s
 refine gN ?_
 unfold Builtin.«isinstance.nested»
 refine vBE ((I.type (M:=model prog w)).at ?_)
 rw [if_pos (by exact beq_self_eq_true _)]
 exact vBE (wpAny_rule (vBE (vBM (vBM h))))
theorem qLY {w:World} {s:Shared} {x:Addr} {Q:Ta} (I:PySem.W.InstAt s.heap x ox C od) (h:Q (.bool true) s):wpAny (model prog w) A (call (.builtin "isinstance") [.ref x,.ref C]) Q E s :=
 call_isinstance (S:=fun _ R s=>PySem.W.InstAt s.heap x ox C od /\ R (.ok (.ret (.bool true))) s) (fun _ _ _ _ _ hs=>isinstance_outer (qFN hs.1 hs.2) (by intro q;cases q)) ⟨I,h⟩
theorem qDB (ok:c.Ok) (hg:Glb c "isinstance" (.builtin "isinstance")) (hw:Wd c) (pc:Pc c P ix K C) (h1:Den c hm n sc nm e o1 f)
  (hk:autoParam (sc.names.lookup ("isinstance":Str) = some .globalImplicit) yK) (hk2:autoParam (sc.names.lookup ("Page":Str) = some .globalImplicit) yK) (hs:autoParam (QC e) yN) :
  Den c hm n sc nm (.Call (.Name "isinstance" np) [e,.Name "Page" tp] [] pos) [] (fun Z=>JR (f Z) (qCG c.sg)):=by
 intro A l env Z vf s r Q E hsc hR hRd hf hQ hE
 refine Call_ (J8 ok hRd hsc hk (by rfl) hg ?_) (by rfl)
 refine vBq ?_ (hs _ _)
 refine args_cons (h1.run hsc hR hRd hf (fun d la _ hg2 va fa s1z st1z ra ta lva hR1 hRd1=>?_) hE) (hs _ _)
 unfold qCG at hg2
 cases d with
 | ob x =>
  dsimp only at hg2
  split at hg2
  ·refine nn fun gN=>?_
   rename_i hp
   obtain ⟨p,hp⟩:=vBe.mp hp
   obtain rfl:=vAy hg2
   obtain ⟨rfl,rfl⟩:=jy ra
   obtain ⟨dx,pa,w1,_⟩:=hw.pg
   obtain ⟨ox,od,vk,vw,fk,I,_⟩:=(w1 x p hp).inst hRd1.bs.1 pc.mg
   refine gN ?_
   clear gN
   refine args_cons (J8 ok hRd1 hsc hk2 (by rfl) (.inl pc.mg) (vCg ?_))
   exact qLY I (hQ _ _ _ _ _ rfl st1z (.bool _) Tr.nil (Lv.nil _ _))
  ·exact nos hg2
 | _=>exact nos hg2
theorem zQ (e:h.get? b = none):(cut S h).get? b = none:=by
 by_cases hb:S b
 ·rw [Qq hb];exact e
 ·exact z8 hb
theorem Iv.cutH (iv:Iv c h0z f0 env nm Z vf s) (hS:∀ b o,c.base.get? b = some o -> S b):Iv c (cut S h0z) f0 env nm Z vf s :=
 ⟨iv.rd,fun b o _ e=>iv.kb b o id (XK e).2,zQ iv.nl,fun x a e=>⟨zQ (iv.ce x a e).1,(iv.ce x a e).2⟩,iv.cd,iv.nd,iv.al,fun i a ha=>(iv.org i a ha).imp zQ id,
  fun i d lv e q a t r=>⟨zQ (iv.own1 i d lv e q a t r).1,(iv.own1 i d lv e q a t r).2⟩,fun i d lv e q=>⟨fun a ha=>⟨zQ ((iv.own2 i d lv e q).1 a ha).1,((iv.own2 i d lv e q).1 a ha).2⟩,(iv.own2 i d lv e q).2⟩,
  fun b o e=>by rw [Qq (hS b o e)];exact iv.bh b o e⟩
theorem PgA.more {mu':List Addr} {a:Addr} (x:PgA mg h mu a p dx pa) (hs:h.StaysIn h') (hm:∀ b o,h.get? b = some o -> b ∈ mu' -> b ∈ mu) (hm':∀ b ∈ mu,b ∈ mu'):PgA mg h' mu' a p dx pa:=by
 refine nn fun gN=>?_
 obtain ⟨C,n1,n2,n3,t1,t2,t3,vk,vw,n,k,vs,sl,fk,fp,h1,h2,h3,h4,h5,h6,h7,h8,h9,h10,h11⟩:=x
 refine gN ?_
 clear gN
 refine ⟨C,n1,n2,n3,t1,t2,t3,vk,vw,n,k,vs,sl,fk,fp,h1,hs _ _ h2,hs _ _ h3,hs _ _ h4,h5.keep fun b o e _=>hs b o e,h6.keep fun b o e _=>hs b o e,h7.keep fun b o e _=>hs b o e,fun b hb q=>?_,fun b hb q=>?_,hm' _ h10,hm' _ h11⟩
 ·obtain ⟨o,_,_,e,_⟩:=h5.fp_list b hb;exact h8 b hb (hm b o e q)
 ·obtain ⟨o,_,_,e,_⟩:=h7.fp_list b hb;exact h9 b hb (hm b o e q)
theorem HdA.more {mu':List Addr} {xs:List D} (x:HdA mg h mu H xs) (hs:h.StaysIn h') (hm:∀ b o,h.get? b = some o -> b ∈ mu' -> b ∈ mu) (hm':∀ b ∈ mu,b ∈ mu'):HdA mg h' mu' H xs:=by
 refine nn fun gN=>?_
 obtain ⟨k,vs,sl,fp,h1,h2,h3,h4⟩:=x
 refine gN ?_
 clear gN
 refine ⟨k,vs,sl,fp,hs _ _ h1,h2.keep fun b o e _=>hs b o e,fun b hb q=>?_,hm' _ h4⟩
 obtain ⟨o,_,_,e,_⟩:=h2.fp_list b hb;exact h3 b hb (hm b o e q)
theorem qIP {ns ms:List Addr} {t:Nat} (hg:Gd c s) (hk:KpP (· ∈ c.mu) s.heap h') (hb:c.base.StaysIn h') (hn:∀ b ∈ ns,s.heap.get? b = none) (hms:∀ b ∈ ms,b ∈ ns) (ht:1 <= t)
  (hw:Wd { c with base:=cut (fun b=>c.base.get? b ≠ none \/ b ∈ ns) h',mu:=ms ++ c.mu,sg:=sg' }):Sp No c s { c with base:=cut (fun b=>c.base.get? b ≠ none \/ b ∈ ns) h',mu:=ms ++ c.mu,sg:=sg' } { s with heap:=h',toks:=t }:=by
 have hbn:∀ b,s.heap.get? b = none -> c.base.get? b = none:=fun b e=>by
  cases q:c.base.get? b with
  | none=>rfl
  | some o=>rw [hg.1 b o q] at e;exact son e
 have hst:∀ b o,c.base.get? b = some o -> (cut (fun b=>c.base.get? b ≠ none \/ b ∈ ns) h').get? b = some o:=fun b o e=>by
  rw [Qq (.inl (by rw [e];exact fun q=>nomatch q))];exact hb b o e
 refine ⟨⟨_,_,rfl⟩,⟨_,_,_,rfl⟩,hk,fun b o e=>?_,fun b o e=>⟨o,hst b o e⟩,fun b o e _=>hst b o e,fun b h=>?_,fun b h=>vBQ _ h,fun _ h=>h.elim,hw,fun b o e=>(XK e).2,ht⟩
 ·rcases (XK e).1 with q | q
  ·exact .inl (ne_none.mp q)
  ·exact .inr (.inl (hn b q))
 ·rcases vBK.mp h with q | q
  ·exact .inr ⟨hbn b (hn b (hms b q)),.inl (hn b (hms b q))⟩
  ·exact .inl q
theorem Wd.more (hw:Wd c) {ms:List Addr} (hs:c.base.StaysIn b') (hn:∀ b ∈ ms,c.base.get? b = none /\ ∃ o T,b'.get? b = some o /\ o.cls = .type T /\ T ≠ "tuple" /\ ∀ vs,o.data ≠ .fields vs)
  (hp:∃ x dx' pa',(∀ a p,sg'.pg a = some p -> (a ≠ x /\ c.sg.pg a = some p) \/ (a = x /\ dx' ∈ ms /\ pa' ∈ ms /\ PgA c.mg b' (ms ++ c.mu) a p dx' pa')))
  (hh:∀ H xs,sg'.hd H = some xs -> (c.sg.hd H = some xs) \/ (H ∈ ms /\ HdA c.mg b' (ms ++ c.mu) H xs /\ ∀ a p,sg'.pg a = some p -> c.sg.pg a = some p)):Wd { c with base:=b',mu:=ms ++ c.mu,sg:=sg' }:=by
 refine nn fun gN=>?_
 obtain ⟨dx,pa,w1,w2,w3⟩:=hw.pg
 obtain ⟨x,dx',pa',hp⟩:=hp
 have hm:∀ b o,c.base.get? b = some o -> b ∈ ms ++ c.mu -> b ∈ c.mu:=fun b o e h=>by
  rcases vBK.mp h with q | q
  ·rw [(hn b q).1] at e;exact nos e
  ·exact q
 have hm':∀ b ∈ c.mu,b ∈ ms ++ c.mu:=fun b h=>vBQ _ h
 have old:∀ a p,c.sg.pg a = some p -> dx a ∉ ms /\ pa a ∉ ms:=fun a p e=>by
  refine nn fun gN=>?_
  obtain ⟨⟨o1,k1,_⟩,o2,k2,_⟩:=(w1 a p e).kinds
  refine gN ?_
  exact ⟨fun q=>by rw [(hn _ q).1] at k1;exact nos k1,fun q=>by rw [(hn _ q).1] at k2;exact nos k2⟩
 refine gN ?_
 refine ⟨fun b hb=>?_,fun b o hb e vs=>?_,⟨(fun a=>open Classical in if a = x then dx' else dx a),(fun a=>open Classical in if a = x then pa' else pa a),fun a p e=>?_,fun a1z a2z p1z p2z e1 e2 ne=>?_,fun a p H xs e1 e2=>?_⟩,fun H xs e=>?_⟩
 ·rcases vBK.mp hb with q | q
  ·obtain ⟨_,o,T,z1,z2,z3,_⟩:=hn b q;exact ⟨o,T,z1,z2,z3⟩
  ·obtain ⟨o,T,z1,z2,z3⟩:=hw.km b q;exact ⟨o,T,hs b o z1,z2,z3⟩
 ·have e:b'.get? b = some o:=e
  rcases vBK.mp hb with q | q
  ·obtain ⟨_,o',T,z1,z2,z3,z4⟩:=hn b q
   rw [z1] at e;obtain rfl:=vAy e;exact z4 vs
  ·obtain ⟨o',T,z1,z2,z3⟩:=hw.km b q
   rw [hs b o' z1] at e;obtain rfl:=vAy e;exact hw.kf b o' q z1 vs
 ·rcases hp a p e with ⟨q,e'⟩ | ⟨rfl,_,_,hA⟩
  ·dsimp only;rw [if_neg q,if_neg q];exact (w1 a p e').more hs hm hm'
  ·dsimp only;rw [if_pos rfl,if_pos rfl];exact hA
 ·dsimp only
  rcases hp a1z p1z e1 with ⟨q1,e1'⟩ | ⟨rfl,d1,d2,_⟩
  ·rw [if_neg q1,if_neg q1]
   rcases hp a2z p2z e2 with ⟨q2,e2'⟩ | ⟨rfl,d1,d2,_⟩
   ·rw [if_neg q2,if_neg q2];exact w2 a1z a2z p1z p2z e1' e2' ne
   ·rw [if_pos rfl,if_pos rfl]
    exact ⟨fun z=>(old a1z p1z e1').1 (z ▸ d1),fun z=>(old a1z p1z e1').2 (z ▸ d2)⟩
  ·rw [if_pos rfl,if_pos rfl]
   rcases hp a2z p2z e2 with ⟨q2,e2'⟩ | ⟨rfl,_⟩
   ·rw [if_neg q2,if_neg q2]
    exact ⟨fun z=>(old a2z p2z e2').1 (z ▸ d1),fun z=>(old a2z p2z e2').2 (z ▸ d2)⟩
   ·exact absurd rfl ne
 ·dsimp only
  rcases hh H xs e2 with h1 | ⟨h1,h2,h3⟩
  ·refine nn fun gN=>?_
   obtain ⟨k,vs,sl,fp,z1,_⟩:=hw.hd H xs h1
   refine gN ?_
   clear gN
   rcases hp a p e1 with ⟨q,e'⟩ | ⟨rfl,d1,d2,_⟩
   ·rw [if_neg q];exact w3 a p H xs e' h1
   ·rw [if_pos rfl];exact fun z=>by rw [z,] at d2;rw [(hn _ d2).1] at z1;exact nos z1
  ·have e':=h3 a p e1
   rcases hp a p e1 with ⟨q,_⟩ | ⟨rfl,d1,d2,hA⟩
   ·rw [if_neg q];exact fun z=>(old a p e').2 (z ▸ h1)
   ·refine nn fun gN=>?_
    obtain ⟨C',n1,n2,n3,t1,t2,t3,vk,vw,n,k,vs,sl,fk,fp,k1,k2,k3,k4,k5,k6,k7,k8,k9,k10,k11⟩:=w1 a p e'
    obtain ⟨C2,m1,m2,m3,u1,u2,u3,vk2,vw2,n',k',vs2,sl2,fk2,fp2,j1,j2,j3,j4,j5,j6,j7,j8,j9,j10,j11⟩:=hA
    rw [hs _ _ k2] at j2
    refine gN ?_
    exact absurd ((by injection j2 with j2;injection j2 with _ j2;injection j2:dx a = dx') ▸ d1) (old a p e').1
 ·rcases hh H xs e with h1 | ⟨_,h2,_⟩
  ·exact (hw.hd H xs h1).more hs hm hm'
  ·exact h2
theorem Room.make {vals:List Value} (hR:Room c hm (n + 1) A l s.heap) (hk:∀ b o,s.heap.get? b = some o -> h.get? b = some o):Room c hm n (A.under (.builtin "type.__call__" ⟨.ref C :: vals,[]⟩)) l h:=by
 refine ⟨hR.fr,fun e he=>?_,?_,?_,?_⟩
 ·obtain ⟨h1,L',o,es,n',h2,h3,h4,h5⟩:=hR.ok e he
  exact ⟨h1,L',o,es,n',h2,h3,hk _ _ h4,h5⟩
 ·exact lN [_,_] (.a (.a (.v 0) (.n 1)) (.v 1)) (.n 900) [(.a (.v 0) (.a (.v 1) (.n 1)),.n 900)] rT hR.depth
 ·exact lN [_,_] (.a (.a (.v 0) (.n 1)) (.m 10 (.v 1))) (.n 9000) [(.a (.v 0) (.m 10 (.a (.v 1) (.n 1))),.n 9000)] rT hR.units
 ·cases hm with
  | false=>exact hR.hm
  | true =>
   refine nn fun gN=>?_
   obtain ⟨y,o,vs,h1,h2,h3,h4⟩:=hR.hm
   refine gN ?_
   exact ⟨y,o,vs,h1,hk _ _ h2,h3,h4⟩
noncomputable abbrev Yo (h:Heap) (C:Addr):Heap:=(h.push emptyDict).push (instObj C h.objs.size)
theorem YM (e:h.get? b = some o):(Yo h C).get? b = some o:=vBB _ (vBB _ e)
theorem qFU {d:DefRec} {f:Th} (ok:c.Ok) (pc:Pc c P ix K C) (hx:jFB P ix 0 = d) (hB:kn c hm n d.scope ["self","width"] d.body f)
  (hF:∀ x ds r,F ds = some r -> ∃ k,r = .exc k /\ fnF 2 0 f (.ob x :: ds) = some (.exc k))
  (hbind:∀ q pm code doc (vals:List Value),vals.length = 2 -> bindArgs (qCD q d pm code doc) ⟨vals,[]⟩ = pure ((["self","width"]:List Str).zip vals)) (hok:jBO d.scope ["self","width"] ["self","width"] = true) :
  OpN c hm (n + 2) (fun vs=>call (.ref C) vs) F:=by
 intro A l L m s vs ds fp r Q E hR hn nb hb rs hf hQ hE
 refine nn fun gN=>?_
 obtain ⟨fI,o,pm,code,doc,g1,g2,g3,g4,g5⟩:=qBN pc (x:="__init__") (k0z:=0) (by decide) hx
 obtain ⟨k,rfl,hk⟩:=hF (s.heap.objs.size + 1) ds r hf
 have X:K.In s.heap:=fun b o e=>hb.1 b o (pc.kin b o e)
 have pg:=jz pc.chk
 obtain ⟨hh,g,dr,t,os⟩:=s
 refine gN ?_
 clear gN
 refine vCi (make_core (makes_of X pg.ms) (looks_findIn X g1) (fun self=>bind_fn X self g2) (.inl rfl) ?_)
 have st1:St c L (⟨hh,g,dr,t,os⟩:Shared) ⟨Yo hh C,g,dr,t,os⟩:=(St.push (L:=L) hb emptyDict).trans (St.push (L:=L) (St.push (L:=L) hb emptyDict).bs (instObj C hh.objs.size))
 refine codeAny_mono (jMC (ps:=["self","width"]) (Q:=fun _ _=>False) (E:=E) (Lc:=L) (s:=⟨Yo hh C,g,dr,t,os⟩) 0 ok g3 g4 g5 ⟨rfl,rfl,rfl,rfl,rfl⟩ hB (hbind _ _ _ _ (.ref (hh.objs.size + 1) :: vs)) hok (hR.make fun b o e=>YM e) st1.bs.1 (.inl hb.2)
  (.cons (.ob (hh.objs.size + 1)) (rs.keep fun b o e _=>YM e)) hk (fun v d lv fp' s' e=>by cases e) fun x k' s' e fl=>hE x k' s' (by cases e;rfl) (fl.back st1 hn)) fun r s' z=>?_
 rcases r with e | (v | _ | _ | _) <;> first | exact z | exact z.elim
theorem jIZ {x:Addr} {v:Str} {rest:List Stmt} {od:Obj} {Q:Flow -> Shared -> Prop} 
  (pc:Pc c P ix K C) (hs:ScF env sc l) (hR:Room c false n A l s.heap) (iv:Iv c h0z f0 env nm Z vf s) (hx:s.heap.get? x = some (instObj C dx)) (hd:s.heap.get? dx = some od) (hdc:od.cls = .type "dict")
  (hM:¬ Mut env Z vf dx) (h0:h0z.get? dx = none) (hj:Z[0]? = some (some (.ob x,la))) (hv:nm[0]? = some v) (h:Den c false n sc nm e occ f) (hf:f Z = some (.ok (d,lv)))
  (ht:takerIn K C name = some none) (hl:∀ sl,(lookIn name { od with slots:=sl }).isSome = true) (he:∀ sl hash key v,∃ es n,(Obj.putName name hash key v { od with slots:=sl }).data = .dict es n /\ es.size <= 1000)
  (hsw:swapsWith e (some (.Attribute (.Name v np) name tp)) pos.line env = pure false)
  (hQ:∀ w fp sl hash tk s',Iv c h0z f0 env nm Z vf s' -> Room c false n A l s'.heap -> s'.heap.get? dx = some (Obj.putName name hash (.str name tk) w { od with slots:=sl }) -> (∃ h tk,s' = { s with heap:=h,toks:=tk }) -> 
   (∀ b o,b ≠ dx -> b ≠ env.locals -> s.heap.get? b = some o -> JW o -> s'.heap.get? b = some o) -> (∀ b,s'.heap.get? b = none -> s.heap.get? b = none) -> Rp c.mg s'.heap w d fp -> Lv s.heap s'.heap lv fp -> wpAny (model c.prog c.w) A (execs rest env) Q E s') :
  wpAny (model c.prog c.w) A (execs (.Assign [.Attribute (.Name v np) name tp] e pos :: rest) env) Q E s:=by
 obtain ⟨m,hn⟩:=iv.rd.ns
 refine wpAny_execs_cons (plainObj_wpAny_Assign_Attribute (h.ok hs.1 hR iv.rd hf (fun w fp s1z st rp tr lvl=>?_)) hsw)
 refine nn fun gN=>?_
 have iv1:=iv.keep st
 obtain ⟨m1z,hn1z⟩:=iv1.rd.ns
 obtain ⟨y1,z1,z2,z3⟩:=iv1.rd.var 0 (.ob x) la hj
 refine gN ?_
 rw [hv] at z1;obtain rfl:=vAy z1
 refine nn fun gN=>?_
 rw [(jy z3).1] at z2
 obtain ⟨sl,hd1⟩:=st.kp.dct dx od (fun q=>hM (.inl q):dx ≠ env.locals) hd
 obtain ⟨es,k,e1,e2⟩:=he sl (PyData.keyHash c.w.params name) (.str name (s1z.toks + 1)) w
 refine gN ?_
 refine XS iv.rd.fn z2 (jWN (fun b o e=>iv1.rd.bs.1 b o (pc.kin b o e):K.In s1z.heap) (⟨(st.kp.keep hn hx (fun es k e=>by cases e):s1z.heap.get? x = some (instObj C dx)),rfl,rfl,hd1⟩:PySem.W.InstAt s1z.heap x (instObj C dx) C (some { od with slots:=sl })) rfl (jz pc.chk) ht (hl sl) rfl e1 e2 fun h' hs' hd'=>?_)
 have hfpd:∀ a ∈ fp,a ≠ dx:=fun a ha q=>by
  obtain ⟨o,vs,k,w1,w2,_⟩:=rp.fp_list a ha
  rw [q,hd1] at w1;obtain rfl:=vAy w1
  have w2:od.cls = _:=w2
  rw [hdc] at w2;exact absurd w2 (by decide)
 refine hQ w fp sl _ _ _ (iv1.iter ⟨_,"dict",hd1,hdc,by decide,by decide⟩ hM (fun b o hb e=>hs'.extBut b o (by simpa using hb) e:∀ b o,b ∉ [dx] -> s1z.heap.get? b = some o -> h'.get? b = some o) (vAz iv1.rd.bs.2 (vBW ..)) h0:Iv c h0z f0 env nm Z vf { s1z with heap:=h',toks:=s1z.toks + 2 }) ?_ hd' ?_ (fun b o hb hbL e nd=>hs'.extBut b o hb (st.kp.keep hn e nd)) (fun b hb=>?_) ?_ ?_
 ·have hR1:=hR.keep st.kp hn
  refine ⟨hR1.fr,fun en hen=>?_,hR1.depth,hR1.units,?_⟩
  ·refine nn fun gN=>?_
   obtain ⟨h1,L',o,es',n',h2,h3,h4,h5⟩:=hR1.ok en hen
   refine gN ?_
   by_cases q:L' = dx
   ·subst q
    exact ⟨h1,L',_,es,k,h2,h3,hd',e1⟩
   ·exact ⟨h1,L',o,es',n',h2,h3,hs'.extBut _ _ q h4,h5⟩
  ·exact hR1.hm
 ·obtain ⟨hh,tk,q⟩:=st.same
  exact ⟨h',s1z.toks + 2,by rw [q]⟩
 ·by_cases q:b = dx
  ·obtain rfl:=q.symm;rw [hd'] at hb;exact son hb
  ·refine st.kp.gone hn ?_
   cases w:s1z.heap.get? b with
   | none=>rfl
   | some o=>rw [hs'.extBut b o q w] at hb;exact son hb
 ·exact rp.keepOn (W:=(· = dx)) (fun b o hb e _=>hs'.extBut b o hb e) (fun b o hb e=>⟨"dict",by obtain rfl:=hb.symm;rw [hd1] at e;obtain rfl:=vAy e;exact hdc,by decide⟩) hfpd
 ·refine ⟨fun h1 a t e=>?_,fun h2=>?_⟩
  ·refine nn fun gN=>?_
   obtain ⟨w1,w2,o,vs,k,w3,w4,w5⟩:=lvl.1 h1 a t e
   refine gN ?_
   exact ⟨w1,w2,o,vs,k,hs'.extBut a o (hfpd a (by rw [e];exact vBA ..)) w3,w4,w5⟩
  ·obtain ⟨w1,w2⟩:=lvl.2 h2
   refine ⟨fun a ha=>?_,w2⟩
   refine nn fun gN=>?_
   obtain ⟨z1,o,vs,k,w3,w4,w5⟩:=w1 a ha
   refine gN ?_
   exact ⟨z1,o,vs,k,hs'.extBut a o (hfpd a ha) w3,w4,w5⟩
end
def qHT (c0z:Cx) (hm:Bool) (n:Nat) (sc:Scope) (nm:List Str) (st:Stmt) (R:Sg -> G -> (OT -> Prop) -> Prop):Prop :=
 ∀ (c1z:Cx) (sE:Shared) (A:Around) (l:List Env) (f0:List Addr) (env:Env) (c:Cx) (h0z:Heap) (Z:G) (vf:Tb) (s:Shared) (U:OT -> Prop) (Q:Flow -> Shared -> Prop) (E:Ta),
  Fam c0z c -> ScF env sc l -> Fs c1z sE hm n A l f0 env nm c h0z Z vf s -> R c.sg Z U -> (∀ r w s',U r -> PostT c0z c1z sE hm n A l f0 env nm c h0z Z vf s r w s' -> Q w s') -> wpAny (model c0z.prog c0z.w) A (exec st env) Q E s
def qAY (c0z:Cx) (hm:Bool) (n:Nat) (sc:Scope) (nm:List Str) (st:List Stmt) (R:Sg -> G -> (OT -> Prop) -> Prop):Prop :=
 ∀ (c1z:Cx) (sE:Shared) (A:Around) (l:List Env) (f0:List Addr) (env:Env) (c:Cx) (h0z:Heap) (Z:G) (vf:Tb) (s:Shared) (U:OT -> Prop) (Q:Flow -> Shared -> Prop) (E:Ta),
  Fam c0z c -> ScF env sc l -> Fs c1z sE hm n A l f0 env nm c h0z Z vf s -> R c.sg Z U -> (∀ r w s',U r -> PostT c0z c1z sE hm n A l f0 env nm c h0z Z vf s r w s' -> Q w s') -> wpAny (model c0z.prog c0z.w) A (execs st env) Q E s
section
variable {n:Nat} {s:Shared}
abbrev ofF (f:Te):Sg -> G -> (OT -> Prop) -> Prop:=fun Wz Z U=>∃ r,f Wz Z = some r /\ U r
def jOM (R1 R2:Sg -> G -> (OT -> Prop) -> Prop):Sg -> G -> (OT -> Prop) -> Prop:=fun Wz Z U=>R1 Wz Z fun r=>match r with
 | .next Z' W'=>R2 W' Z' U
 | r=>U r
theorem jFM {st:Stmt} {f:Te} (h:jVN c0z hm n sc nm st f):qHT c0z hm n sc nm st (ofF f):=by
 intro c1z sE A l f0 env c h0z Z vf s U Q E fm hs y ⟨r,hf,hr⟩ hQ
 exact h c1z sE A l f0 env c h0z Z vf s r Q E fm hs y hf fun w s' p=>hQ r w s' hr p
theorem qHE {st:Stmt} {R:Sg -> G -> (OT -> Prop) -> Prop} (h:qHT c0z hm n sc nm st R):qAY c0z hm n sc nm [st] (fun Wz Z U=>R Wz Z fun r=>(∃ d W',r = .ret d W') /\ U r):=by
 intro c1z sE A l f0 env c h0z Z vf s U Q E fm hs y hR hQ
 refine wpAny_execs_cons (h c1z sE A l f0 env c h0z Z vf s _ _ E fm hs y hR fun r w s' ⟨⟨d,W',e⟩,hr⟩ p=>?_)
 subst e
 cases w <;> first | exact p.elim | exact hQ _ _ _ hr p
theorem Xg {st:Stmt} {rest:List Stmt} {R1 R2:Sg -> G -> (OT -> Prop) -> Prop} (h1:qHT c0z hm n sc nm st R1) (h2:qAY c0z hm n sc nm rest R2):qAY c0z hm n sc nm (st :: rest) (jOM R1 R2):=by
 intro c1z sE A l f0 env c h0z Z vf s U Q E fm hs y hR hQ
 refine wpAny_execs_cons (h1 c1z sE A l f0 env c h0z Z vf s _ _ E fm hs y hR fun r w s' hr p=>?_)
 cases r with
 | next Z' W' =>
  cases w <;> first | exact p.elim | skip
  refine nn fun gN=>?_
  obtain ⟨vf',c',h',fm',e',y',t⟩:=p
  subst e'
  refine gN ?_
  clear gN
  exact h2 c1z sE A l f0 env c' h' Z' vf' s' U Q E fm' hs y' hr fun r w s'' z q=>hQ r w s'' z (q.back t)
 | brk Z' W' =>
  cases w <;> first | exact p.elim | exact hQ _ _ _ hr p
 | ret d W' =>
  cases w <;> first | exact p.elim | exact hQ _ _ _ hr p
theorem qFH {ns:List Addr} (hg:Gd c s) (hb:∀ b ∈ ns,c.base.get? b = none) (hn:∀ b ∈ ns,∃ o,s.heap.get? b = some o /\ JW o) (hw:Wd { c with base:=cut (fun b=>c.base.get? b ≠ none \/ b ∈ ns) s.heap,mu:=ns ++ c.mu,sg:=sg' }) :
  Sp (· ∈ ns) c s { c with base:=cut (fun b=>c.base.get? b ≠ none \/ b ∈ ns) s.heap,mu:=ns ++ c.mu,sg:=sg' } s:=by
 have hst:∀ b o,c.base.get? b = some o -> (cut (fun b=>c.base.get? b ≠ none \/ b ∈ ns) s.heap).get? b = some o:=fun b o e=>by
  rw [Qq (.inl (by rw [e];exact fun q=>nomatch q))];exact hg.1 b o e
 refine ⟨⟨_,_,rfl⟩,⟨_,_,_,rfl⟩,KpP.refl _ _,fun b o e=>?_,fun b o e=>⟨o,hst b o e⟩,fun b o e _=>hst b o e,fun b h=>?_,fun b h=>vBQ _ h,hn,hw,fun b o e=>(XK e).2,hg.2⟩
 ·rcases (XK e).1 with q | q
  ·exact .inl (ne_none.mp q)
  ·exact .inr (.inr (.inl q))
 ·rcases vBK.mp h with q | q
  ·exact .inr ⟨hb b q,.inr q⟩
  ·exact .inl q
theorem Tk.fresh (st:St c env.locals s s1z) (iv:Iv c h0z f0 env nm Z vf s) (g:Sp N c s1z c' s1z) (hN:∀ b,N b -> s.heap.get? b = none):Tk env c h0z Z vf s c' (jVL h0z c' s1z.heap) Z vf s1z:=by
 obtain ⟨m,hn⟩:=iv.rd.ns
 refine ⟨fun b o e nd h1 h2=>⟨st.kp.keep hn e nd,h1,fun q=>?_⟩,fun b h=>g.fz h,fun b ⟨o,T,e,nd,z1,z2,z3⟩ h1 h2 h3=>Z6 h3 ?_⟩
 ·rcases g.mu b q with w | ⟨_,w | w⟩
  ·exact h2 w
  ·rw [st.kp.keep hn e nd] at w;exact son w
  ·rw [hN b w] at e;exact nos e
 ·cases q:c'.base.get? b with
  | none=>rfl
  | some o' =>
   rcases g.nb b o' q with ⟨o'',w⟩ | w | w | ⟨o'',vs,k,w1,w2,w3⟩
   ·rw [iv.bh b o'' w] at h3;exact nos h3.symm
   ·rw [st.kp.keep hn e nd] at w;exact son w
   ·rw [hN b w] at e;exact nos e
   ·rw [st.kp.keep hn e nd] at w1;obtain rfl:=vAy w1
    rw [z1] at w2;injection w2 with w2;exact absurd w2 z3
theorem qHH {p lp:Pos} (i:Nat) (hx:autoParam (nm[i]? = some x) yL) (hk:autoParam (stK sc x = true) yK) (ho:autoParam (jNN x = true) yK)
  (hs:autoParam (∀ env:Env,env.scope = sc -> swapsWith (.List [] lp) (some (.Name x p)) pos.line env = pure false) yN) :
  qHT c0z hm n sc nm (.Assign [.Name x p] (.List [] lp) pos) (fun Wz Z U=>∀ H,Wz.hd H = none -> Wz.pg H = none -> U (.next (Z.set i (some (.ob H,2))) (Xr Wz H []))):=by
 intro c1z sE A l f0 env c h0z Z vf s U Q E fm hsF y hR hQ
 rw [<- fm.md]
 refine vCV ((JV JD).ok hsF.1 y.rm y.iv.rd rfl (fun v fp s1z st rp tr lvl=>?_)) (hs env hsF.1)
 obtain ⟨m,hn⟩:=y.iv.rd.ns
 obtain ⟨H,vs,f,hl,rs⟩:=QR rp
 obtain ⟨e1,e2⟩:=rs.inv
 subst e2
 have hvs:vs = #[]:=Array.toList_eq_nil_iff.mp e1
 subst hvs
 obtain ⟨w1,w2⟩:=lvl.2 (vBI _)
 obtain ⟨hH,hNd⟩:=w1 H (vBA ..)
 obtain ⟨k,sl,hobj⟩:=vm hl hNd
 have hbn:c.base.get? H = none:=by
  cases q:c.base.get? H with
  | none=>rfl
  | some o=>rw [y.iv.rd.bs.1 H o q] at hH;exact son hH
 have hhd:c.sg.hd H = none:=by
  cases q:c.sg.hd H with
  | none=>rfl
  | some xs=>obtain ⟨_,_,_,_,z,_⟩:=y.wd.hd H xs q;rw [hbn] at z;exact nos z
 have hpg:c.sg.pg H = none:=by
  cases q:c.sg.pg H with
  | none=>rfl
  | some p =>
   refine nn fun gN=>?_
   obtain ⟨dx,pa,z,_⟩:=y.wd.pg
   obtain ⟨C',n1,n2,n3,t1,t2,t3,vk,vw,n,k,vs,sl,fk,fp,k1,k2,_⟩:=z H p q
   refine gN ?_
   clear gN
   rw [hbn] at k2;exact nos k2
 have hst:c.base.StaysIn (cut (fun b=>c.base.get? b ≠ none \/ b ∈ [H]) s1z.heap):=fun b o e=>by
  rw [Qq (.inl (by rw [e];exact fun q=>nomatch q))];exact st.bs.1 b o e
 have hHb:(cut (fun b=>c.base.get? b ≠ none \/ b ∈ [H]) s1z.heap).get? H = some { cls:=.type "list",data:=.seq #[] k,slots:=sl }:=by rw [Qq (.inr (vBH.mpr rfl))];exact hobj
 have hw:Wd { c with base:=cut (fun b=>c.base.get? b ≠ none \/ b ∈ [H]) s1z.heap,mu:=[H] ++ c.mu,sg:=Xr c.sg H [] }:=by
  refine y.wd.more hst (fun b hb=>?_) ⟨H,H,H,fun a p e=>.inl ⟨fun q=>?_,e⟩⟩ fun H' xs e=>?_
  ·obtain rfl:=(vBH.mp hb).symm
   exact ⟨hbn,_,"list",hHb,rfl,by decide,fun vs q=>by cases q⟩
  ·obtain rfl:=q.symm
   have e:c.sg.pg H = some p:=e
   rw [hpg] at e;exact nos e
  ·by_cases q:H' = H
   ·obtain rfl:=q.symm
    rw [xh] at e;obtain rfl:=vAy e
    exact .inr ⟨vBH.mpr rfl,⟨k,#[],sl,[],hHb,.nil,fun _ h=>(nomatch h),vBU _ (vBH.mpr rfl)⟩,fun H p e=>e⟩
   ·unfold Xr at e;dsimp only at e;rw [if_neg q] at e;exact .inl e
 have g:=qFH (ns:=[H]) (sg':=Xr c.sg H []) st.bs (fun b hb=>by obtain rfl:=(vBH.mp hb).symm;exact hbn) (fun b hb=>by obtain rfl:=(vBH.mp hb).symm;exact ⟨_,hobj,JK rfl⟩) hw
 have hfr:∀ b,b ∈ [H] -> s.heap.get? b = none:=fun b hb=>by obtain rfl:=(vBH.mp hb).symm;exact hH
 have fm':=fm.go g
 have y':=(y.st st).go g (fun H hb hM=>?_) (fun i a ha hb=>?_) (fun H hb=>(y.vh.step y.iv.kb).gone y.w1 y.iv.rd.bs.1 (hfr H hb))
 ·rw [fm.md]
  exact y'.store fm' (.ob H) (fun _ h=>nomatch h) hsF.1 hx hk ho fun s3z vf3 y3z t3z=>hQ _ _ _ (hR H hhd hpg) ⟨vf3,_,_,fm',rfl,y3z,(Tk.fresh st y.iv g hfr).trans t3z⟩
 ·rcases hM with q | ⟨z,q⟩ | q
  ·obtain ⟨o',_,_,z,_⟩:=hn;rw [<- q,hfr H hb] at z;exact nos z
  ·obtain ⟨_,_,o',z,_⟩:=y.iv.ce z H q;rw [hfr H hb] at z;exact nos z
  ·obtain ⟨⟨o',_,_,z,_⟩,_⟩:=q.lst y.iv;rw [hfr H hb] at z;exact nos z
 ·refine nn fun gN=>?_
  obtain ⟨o,_,_,z,_⟩:=y.iv.al i a ha
  refine gN ?_
  clear gN
  rw [hfr a hb] at z;exact nos z
theorem Me.mono (h:Me c K C hm n x F) (hn:autoParam (n <= n') yD):Me c K C hm n' x F:=by
 refine nn fun gN=>?_
 obtain ⟨a,o,fd,h1,h2,h3,h4,h5⟩:=h
 refine gN ?_
 clear gN
 exact ⟨a,o,fd,h1,h2,h3,h4,h5.mono hn⟩
theorem OpT.mono (h:OpT c0z hm n op U) (hn:n <= n'):OpT c0z hm n' op U :=
 fun c A l s vs ds fp d W' Q E fm hR=>h c A l s vs ds fp d W' Q E fm (hR.mono hn)
theorem MeT.mono (h:MeT c0z K C hm n x U) (hn:autoParam (n <= n') yD):MeT c0z K C hm n' x U:=by
 refine nn fun gN=>?_
 obtain ⟨a,o,fd,h1,h2,h3,h4,h5⟩:=h
 refine gN ?_
 clear gN
 exact ⟨a,o,fd,h1,h2,h3,h4,h5.mono hn⟩
theorem FnT.mono (h:FnT c0z hm n x U) (hn:autoParam (n <= n') yD):FnT c0z hm n' x U:=by
 obtain ⟨a,o,fd,h1,h2,h3,h4⟩:=h
 exact ⟨a,o,fd,h1,h2,h3,h4.mono hn⟩
def Mw (c:Cx):Prop:=∃ t,c.mg "MOST_WORDS" = some (.int 120 t)
theorem Fam.mw (f:Fam c0z c) (h:Mw c0z):Mw c:=by obtain ⟨t,h⟩:=h;exact ⟨t,by rw [f.mgE];exact h⟩
theorem jPY (ok:c.Ok) (mw:Mw c) (hk:autoParam (sc.names.lookup ("MOST_WORDS":Str) = some .globalImplicit) yK):Den c hm n sc nm (.Name "MOST_WORDS" np) [] (fun _=>some (.ok (.int 120,2))):=by
 intro A l env Z vf s r Q E hsc hR hRd hf hQ hE
 obtain ⟨t,hm⟩:=mw
 exact J8 ok hRd hsc hk (by rfl) (.inl hm) (hQ _ _ _ _ _ ((vAy hf).symm) (St.refl hRd.bs) (.int _ _) Tr.nil (Lv.nil _ _))
theorem jPD (h:makesIn K C = true):keepIn K (.ref C) = true:=by
 unfold makesIn at h
 unfold keepIn
 dsimp only
 split at h
 ·rename_i q
  rw [q]
  simp only [vBR] at h
  exact h.1.2
 ·cases h
theorem qHA {g:G -> Option (R (List D))} (ok:c.Ok) (pc:Pc c P ix K C) (ho:OpN c hm n (fun vs=>call (.ref C) vs) F) (h1:DenA c hm n sc nm [e] o1 g)
  (hk:autoParam (sc.names.lookup ("Page":Str) = some .globalImplicit) yK) (hs:autoParam (QC e) yN):Den c hm n sc nm (.Call (.Name "Page" np) [e] [] pos) o1 (fun Z=>JR (g Z) F):=by
 intro A l env Z vf s r Q E hsc hR hRd hf hQ hE
 refine Call_ (J8 ok hRd hsc hk (by rfl) (.inl pc.mg) ?_) (by rfl)
 exact callWith_K (first:=[]) (h₀:=c.base) pc.kin (jPD (jz pc.chk).ms) (vCO (vM ho h1 hsc hR hRd hf hQ hE) (fun vs s1z h=>⟨fun b o e=>h.1.bs.1 b o (pc.kin b o e),h.2⟩) fun _ _ x=>x) (hs _ _)
def jXY (Wz:Sg) (ds:List D) (U:D -> Sg -> Prop):Prop:=∃ w:Int,ds = [.int w] /\ 1 <= w /\ ∀ x,Wz.pg x = none -> U (.ob x) (XH Wz x ⟨.list [],.int w,[]⟩)
def OpW (c0z:Cx) (hm:Bool) (n:Nat) (op:List Value -> Sem Value) (Yz11:Sg -> List D -> (D -> Sg -> Prop) -> Prop):Prop :=
 ∀ (c:Cx) (A:Around) (l:List Env) (s:Shared) (vs:List Value) (ds:List D) (fp:List Addr) (U:D -> Sg -> Prop) (Q:Ta) (E:Ta),
  Fam c0z c -> Room c hm n A l s.heap -> Gd c s -> Rps c.mg s.heap vs ds fp -> (∀ a ∈ fp,Fz c a) -> Yz11 c.sg ds U -> 
  (∀ c' v d fp' s',U d c'.sg -> Sp No c s c' s' -> Rp c'.mg s'.heap v d fp' -> (∀ a ∈ fp',Fz c' a) -> Q v s') -> wpAny (model c0z.prog c0z.w) A (op vs) Q E s
theorem OpW.mono (h:OpW c0z hm n op Yz11) (hn:n <= n'):OpW c0z hm n' op Yz11 :=
 fun c A l s vs ds fp U Q E fm hR=>h c A l s vs ds fp U Q E fm (hR.mono hn)
theorem jNY {g:G -> Option (R (List D))} {U:D -> Sg -> Prop} {Q:Ta} 
  (fm:Fam c0z c) (y:Fs c1z sE hm n A l f0 env nm c h0z Z vf s) (hsc:env.scope = sc) (h:DenA c hm n sc nm es occ g) (hg:g Z = some (.ok ds)) (ho:OpW c0z hm n op Yz11) (hY:Yz11 c.sg ds U)
  (k:∀ v d fp c' h0' s',U d c'.sg -> Fam c0z c' -> Fs c1z sE hm n A l f0 env nm c' h0' (JX occ Z) vf s' -> Tk env c h0z Z vf s c' h0' (JX occ Z) vf s' -> Rp c'.mg s'.heap v d fp -> (∀ b ∈ fp,Fz c' b) -> Q v s') :
  wpAny (model c0z.prog c0z.w) A (spliced (backTo pos (starEach es env))) (fun vs s1z=>(∀ b o,c.base.get? b = some o -> s1z.heap.get? b = some o) /\ wpAny (model c0z.prog c0z.w) A (op vs) Q E s1z) E s:=by
 rw [<- fm.md]
 refine h.ok hsc y.rm y.iv.rd hg (fun vs fp s1z st rp tr=>⟨st.bs.1,?_⟩)
 refine nn fun gN=>?_
 obtain ⟨c',h0',⟨_,g'⟩,eW,hz,hr,y',tk⟩:=y.frzK st tr (fun b hb=>rp.fp_list b hb)
 refine gN ?_
 rw [fm.md]
 exact ho c' A l s1z vs ds fp U Q E (fm.go g') y'.rm y'.iv.rd.bs ((by obtain ⟨_,_,_,z⟩:=g'.cx;rw [z]:c'.mg = c.mg) ▸ rp) hz (by rw [eW];exact hY) fun c'' v d fp' s' hd g'' r' z'=>k v d fp' c'' _ s' hd ((fm.go g').go g'') (y'.no g'') (tk.trans (Tk.no g'' y'.iv.bh)) r' z'
theorem qHF {p:Pos} {g:Sg -> G -> Option (R (List D))} (i:Nat) (ok0:c0z.Ok) (pc0:Pc c0z P ix K C) (ho:OpW c0z hm n (fun vs=>call (.ref C) vs) jXY) (h:∀ c,Fam c0z c -> DenA c hm n sc nm [e] occ (g c.sg))
  (hx:autoParam (nm[i]? = some x) yL) (hk:autoParam (stK sc x = true) yK) (hox:autoParam (jNN x = true) yK) (hk2:autoParam (sc.names.lookup ("Page":Str) = some .globalImplicit) yK) (hs:autoParam (QC e) yN)
  (hsw:autoParam (∀ env:Env,env.scope = sc -> swapsWith (.Call (.Name "Page" np) [e] [] cp) (some (.Name x p)) pos.line env = pure false) yN) :
  qHT c0z hm n sc nm (.Assign [.Name x p] (.Call (.Name "Page" np) [e] [] cp) pos) (fun Wz Z U=>∃ ds,g Wz Z = some (.ok ds) /\ jXY Wz ds fun d W'=>U (.next ((JX occ Z).set i (some (d,JZ d))) W')):=by
 intro c1z sE A l f0 env c h0z Z vf s U Q E fm hsF y ⟨ds,hg,hR⟩ hQ
 refine vCV ?_ (hsw env hsF.1)
 rw [<- fm.md]
 refine Call_ (J8 (fm.ok ok0) y.iv.rd hsF.1 hk2 (by rfl) (.inl (fm.pc pc0).mg) ?_) (by rfl)
 rw [fm.md]
 refine callWith_K (first:=[]) (h₀:=c.base) (fm.pc pc0).kin (jPD (jz pc0.chk).ms) (vCO (jNY fm y hsF.1 (h c fm) hg ho hR fun v d fp c' h' s' hd fm' y' tk rp hz=>?_) (fun vs s1z h=>⟨fun b o e=>h.1 b o ((fm.pc pc0).kin b o e),h.2⟩) fun _ _ x=>x) (hs _ _)
 exact y'.store fm' rp hz hsF.1 hx hk hox fun s3z vf3 y3z t3z=>hQ _ _ _ hd ⟨vf3,c',h',fm',rfl,y3z,tk.trans t3z⟩
def FnW (c0z:Cx) (hm:Bool) (n:Nat) (x:Str) (Yz11:Sg -> List D -> (D -> Sg -> Prop) -> Prop):Prop :=
 ∃ f o fd,c0z.mg x = some (.ref f) /\ c0z.base.get? f = some o /\ o.data = .func fd /\ OpW c0z hm n (fun vs=>call (.ref f) vs) Yz11
theorem qKM {f:Str} {p:Pos} {g:Sg -> G -> Option (R (List D))} (i:Nat) (ok0:c0z.Ok) (hF:FnW c0z hm n f Yz11) (h:∀ c,Fam c0z c -> DenA c hm n sc nm [e] occ (g c.sg))
  (hx:autoParam (nm[i]? = some x) yL) (hk:autoParam (stK sc x = true) yK) (hox:autoParam (jNN x = true) yK) (hk2:autoParam (sc.names.lookup f = some .globalImplicit) yK) (hd:autoParam ((f == ("__debug__":Str)) = false) yK) (hs:autoParam (QC e) yN)
  (hsw:autoParam (∀ env:Env,env.scope = sc -> swapsWith (.Call (.Name f np) [e] [] cp) (some (.Name x p)) pos.line env = pure false) yN) :
  qHT c0z hm n sc nm (.Assign [.Name x p] (.Call (.Name f np) [e] [] cp) pos) (fun Wz Z U=>∃ ds,g Wz Z = some (.ok ds) /\ Yz11 Wz ds fun d W'=>U (.next ((JX occ Z).set i (some (d,JZ d))) W')):=by
 intro c1z sE A l f0 env c h0z Z vf s U Q E fm hsF y ⟨ds,hg,hR⟩ hQ
 refine vCV ?_ (hsw env hsF.1)
 refine nn fun gN=>?_
 obtain ⟨fa,o,fd,m1,m3,m4,m5⟩:=hF
 refine gN ?_
 rw [<- fm.md]
 refine Call_ (J8 (fm.ok ok0) y.iv.rd hsF.1 hk2 hd (.inl (by rw [fm.mgE];exact m1)) ?_) (by rfl)
 rw [fm.md]
 refine callWith_def (o:=o) (fd:=fd) m4 (vCO (jNY fm y hsF.1 (h c fm) hg m5 hR fun v d fp c' h' s' hd fm' y' tk rp hz=>?_) (fun vs s1z h=>⟨h.1 fa o (fm.st _ _ m3),h.2⟩) fun _ _ x=>x) (hs _ _)
 exact y'.store fm' rp hz hsF.1 hx hk hox fun s3z vf3 y3z t3z=>hQ _ _ _ hd ⟨vf3,c',h',fm',rfl,y3z,tk.trans t3z⟩
noncomputable def qLJ (c:Cx):Cx:={ c with mu:=[],sg:=⟨fun _=>none,fun _=>none⟩ }
theorem qHM {a:Addr} (h:Fz c a):Fz (qLJ c) a:=⟨h.1,fun q=>nomatch q⟩
theorem qHG {st:Stmt} {f:Th} (hv:nm[j]? = some x) (h:∀ c,Fam c0z c -> jKM (qLJ c) hm n sc nm st f) :
  qHT c0z hm n sc nm st (fun Wz Z U=>∃ H la xs d lv,Z[j]? = some (some (.ob H,la)) /\ Wz.hd H = some xs /\ d.flat = true /\ f ((JX (List.range nm.length) Z).set j (some (.list xs,0))) = some (.ret d lv) /\ U (.ret d Wz)):=by
 intro c1z sE A l f0 env c h0z Z vf s U Q E fm hs y ⟨H,la,xs,d,lv,e1,e2,e3,e4,e5⟩ hQ
 refine nn fun gN=>?_
 obtain ⟨k,vs,sl,fp,g1,g2,g3,g4⟩:=y.wd.hd H xs e2
 obtain ⟨y1,z1,z2,z3⟩:=y.iv.rd.var j (.ob H) la e1
 refine gN ?_
 rw [hv] at z1;obtain rfl:=vAy z1
 obtain ⟨q1,q2⟩:=jy z3
 have hZ:∀ i d' l',((JX (List.range nm.length) Z).set j (some (.list xs,0)))[i]? = some (some (d',l')) -> (i = j /\ d' = .list xs /\ l' = 0) \/ (i ≠ j /\ l' = 0 /\ ∃ l'',Z[i]? = some (some (d',l''))):=fun i d' l' e=>by
  rw [vCK] at e
  split at e
  ·rename_i q
   split at e
   ·cases e;exact .inl ⟨q.symm,rfl,rfl⟩
   ·exact nos e
  ·refine nn fun gN=>?_
   rename_i q
   obtain ⟨l'',w1,w2,w3⟩:=jF e
   obtain ⟨z,w4,_⟩:=y.iv.rd.var i d' l'' w2
   refine gN ?_
   exact .inr ⟨fun z=>q z.symm,w3 (vBV.mpr (vBY.mp w4).1),l'',w2⟩
 have iv:Iv (qLJ c) h0z f0 env nm ((JX (List.range nm.length) Z).set j (some (.list xs,0))) (fun i=>if i = j then (.ref H,H :: fp) else vf i) s:=by
  refine ⟨⟨y.iv.rd.bs,y.iv.rd.ns,y.iv.rd.nb,y.iv.rd.fn,y.iv.rd.gl,y.iv.rd.bl,y.iv.rd.cl,fun i d' l' e=>?_⟩,y.iv.kb,y.iv.nl,y.iv.ce,y.iv.cd,y.iv.nd,fun i a ha=>?_,fun i a ha=>?_,fun i d' l' e q=>?_,fun i d' l' e q=>?_,y.iv.bh⟩
  ·rcases hZ i d' l' e with ⟨q,q',_⟩ | ⟨q,_,l'',w⟩
   ·rw [q,q',if_pos rfl]
    exact ⟨_,hv,q1 ▸ z2,.list (y.iv.rd.bs.1 _ _ g1) rfl rfl (g2.keep fun b o e _=>y.iv.rd.bs.1 b o e)⟩
   ·rw [if_neg q];exact y.iv.rd.var i d' l'' w
  ·split at ha
   ·rcases vCu.mp ha with q | ha
    ·rw [q];exact ⟨_,vs,k,(y.iv.rd.bs.1 _ _ g1),rfl,rfl⟩
    ·exact (g2.keep fun b o e _=>y.iv.rd.bs.1 b o e).fp_list a ha
   ·exact y.iv.al i a ha
  ·split at ha
   ·rcases vCu.mp ha with q | ha
    ·rw [q];exact .inr (.inr ⟨⟨_,g1⟩,fun q=>nomatch q⟩)
    ·obtain ⟨o,_,_,w,_⟩:=g2.fp_list a ha
     exact .inr (.inr ⟨⟨o,w⟩,fun q=>nomatch q⟩)
   ·rcases y.iv.org i a ha with w | w | w
    ·exact .inl w
    ·exact .inr (.inl w)
    ·exact .inr (.inr (qHM w))
  ·rcases hZ i d' l' e with ⟨_,_,z⟩ | ⟨_,z,_⟩ <;> (rw [z] at q;exact absurd q (vBX _))
  ·rcases hZ i d' l' e with ⟨_,_,z⟩ | ⟨_,z,_⟩ <;> (rw [z] at q;exact absurd q (vBX _))
 rw [<- fm.md]
 refine h c fm A l env h0z f0 _ _ s _ _ E hs (⟨y.rm.fr,fun e he=>by obtain ⟨h1,L,o,es,k,h2,h3,h4,h5⟩:=y.rm.ok e he;exact ⟨h1,L,o,es,k,h2,h3,h4,h5⟩,y.rm.depth,y.rm.units,y.rm.hm⟩:Room (qLJ c) hm n A l s.heap) iv e4 (fun w s' p=>?_) (fun _ s' p=>p.elim)
 cases w <;> first | exact p.elim | skip
 obtain ⟨r1,r2,r3,r4,_,fp',r5,r6,r7⟩:=p
 obtain rfl:=r5.flat_fp e3
 exact hQ _ _ _ e5 ⟨c,[],(y.vh.step r3).out r4 (jKX y.sm r1),rfl,r5,fun _ h=>nomatch h⟩
end
theorem jUI (l:OpenLaw) {w:World} {cl:Str -> Option Addr} {fa x:Addr} {n:Nat} {R:Sg -> G -> (OT -> Prop) -> Prop}
  {p:Str} (ok:(Yg l.row.prog w s1z mg mb).Ok) (hg:s1z.gens = #[]) (hp:l.row.claim.post args (.bool true) args = true)
  (hfn:∃ a o pm code doc,mg name = some (.ref a) /\ s1z.heap.get? a = some o /\ o.data = .func (docDef name params body scope pm code doc) /\ s1z.heap.CodeRec code name) (hmg:mg name = some (.ref fa))
  (hL:s1z.heap.IsList x vs.toArray) (hI:IntsAre vs ns) (hn:n <= 500) (fam:Fam (Yg l.row.prog w s1z mg mb) (Yg l.row.prog w s1z mg mb))
  (hB:qAY (Yg l.row.prog w s1z mg mb) false n scope nm body R)
  (hbind:∀ pm code doc (vals:List Value),vals.length = [p].length -> bindArgs (docDef name params body scope pm code doc) ⟨vals,[]⟩ = pure ([p].zip vals))
  (hok:jBO scope [p] nm = true) (hpl:scope.names.lookup p = some .local) (hf:R ⟨fun _=>none,fun _=>none⟩ (Xm k [.list (ns.map .int)]) fun r=>∃ W',r = .ret (.bool true) W') :
  wpAny (model l.row.prog w) callerA (call (.ref fa) [.ref x]) (fun v s'=>GoodWG l.row.claim cl mean args s1z (.ok (.ret v)) s') (fun e s'=>GoodWG l.row.claim cl mean args s1z (.error e) s') s1z:=by
 refine nn fun gN=>?_
 obtain ⟨a,o,pm,code,doc,g1,g2,g3,g4⟩:=hfn
 refine gN ?_
 rw [hmg] at g1;cases g1
 refine nn fun gN=>?_
 obtain ⟨o',z1,z2,z3,z4⟩:=hL
 refine gN ?_
 refine vCi (vF (c:=Yg l.row.prog w s1z mg mb) (hm:=false) (n:=n) k ok g2 g3 g4 ⟨rfl,rfl,rfl,rfl,rfl⟩ hok (hbind pm code doc [.ref x]) (l:=[]) ⟨rfl,(fun e he=>by cases he),by exact vAz (vCp (vBI _) (vCf hn _)) (by decide),by exact vAz (vCp (vBI _) (Nat.mul_le_mul (vBI _) (vCf hn _))) (by decide),rfl⟩ (fun b o e=>e) (.inr ⟨p,rfl,hpl⟩) (Rps.one (.list z1 z2 z4 (by simpa using qCJ hI)):Rps mg s1z.heap [.ref x] [.list (ns.map .int)] [x]) rfl fun env vf s2z hsc hR1 iv hsm=>?_)
 refine hB _ s1z _ _ [x] env _ s1z.heap _ vf s2z _ _ _ fam hsc ⟨iv,Vh.refl fam.wd,hR1,fam.wd,fun b o e=>e,hsm,fun b hb=>?_⟩ hf fun r w' s' ⟨W',e⟩ q=>?_
 ·obtain rfl:=(vBH.mp hb).symm
  exact ⟨⟨_,z1⟩,fun q=>nomatch q⟩
 ·subst e
  cases w' <;> first | exact q.elim | skip
  refine nn fun gN=>?_
  obtain ⟨c',fp,g,_,rp,_⟩:=q
  obtain ⟨rfl,rfl⟩:=rp.inv
  refine gN ?_
  exact qCF l (fun x o e=>g.gd.1 x o ((fam.go g).st x o e)) g.same hg hp
section
variable {n:Nat} {s:Shared}
def qDQ (c:Cx) (hm:Bool) (n:Nat) (sc:Scope) (nm:List Str) (es:List Expr) (f:G -> Option (R (List D))):Prop :=
 ∀ (A:Around) (l:List Env) (env:Env) (Z:G) (vf:Tb) (s:Shared) (pos:Pos) (ds:List D) (Q:List Value -> Shared -> Prop) (E:Ta),
  env.scope = sc -> Room c hm n A l s.heap -> Rd c env nm Z vf s -> f Z = some (.ok ds) -> 
  (∀ vs fp s',St c env.locals s s' -> Rps c.mg s'.heap vs ds fp -> (∀ a ∈ fp,s.heap.get? a = none /\ Nd s'.heap a) -> fp.Nodup -> Q vs s') -> wpAny (model c.prog c.w) A (spliced (backTo pos (starEach es env))) Q E s
theorem jMM:qDQ c hm n sc nm [] (fun _=>some (.ok [])):=by
 intro A l env Z vf s pos ds Q E hsc hR hRd hf hQ
 cases vAy hf
 exact vCg (hQ _ _ _ (St.refl hRd.bs) .nil (fun _ h=>nomatch h) .nil)
def qLC (a:D × Nat) (g:Option (R (List D))):Option (R (List D)):=if 2 <= a.2 then JR g fun b=>some (.ok (a.1 :: b)) else none
theorem YK {g:G -> Option (R (List D))} (h1:Den c hm n sc nm e occ f) (h2:qDQ c hm n sc nm rest g) (hs:autoParam (QC e) yN) :
  qDQ c hm n sc nm (e :: rest) (fun Z=>JR (f Z) fun a=>qLC a (g Z)):=by
 intro A l env Z vf s pos ds Q E hsc hR hRd hf hQ
 obtain ⟨m,hn⟩:=hRd.ns
 rcases J6 hf with ⟨⟨d,lv⟩,e1,e2⟩ | ⟨k,_,e2⟩
 ·obtain ⟨hl,e2⟩:=ifs e2
  ·rcases J6 e2 with ⟨b,e3,e4⟩ | ⟨k,_,e4⟩
   ·cases vAy e4
    refine args_cons (h1.ok hsc hR hRd e1 (fun v fp s1z st rp tr lvl=>?_)) (hs _ _)
    obtain ⟨w1,w2⟩:=lvl.2 hl
    refine h2 A l env Z vf s1z pos b _ E hsc (hR.keep st.kp hn) (hRd.keep st) e3 fun vs fp2 s2z st2z rs w3 w4=>?_
    refine hQ _ _ _ (st.trans st2z) (.cons (st2z.kp.rp (st.kp.ns m hn) rp) rs) (fun a ha=>?_) (vCY.mpr ⟨w2,w4,fun a ha b hb q=>?_⟩)
    ·rcases vBK.mp ha with q | q
     ·exact ⟨(w1 a q).1,(w1 a q).2.keep st2z.kp (st.kp.ns m hn)⟩
     ·exact ⟨st.kp.gone hn (w3 a q).1,(w3 a q).2⟩
    ·subst q
     obtain ⟨o,_,_,z,_⟩:=(w1 a ha).2
     rw [(w3 a hb).1] at z;exact nos z
   ·cases e4
 ·cases e2
theorem Stp.lst {a:Addr} (x:Stp c h0z f0 env nm Z vf s Z' vf' s') (ha:s.heap.get? a = none) (ha0:h0z.get? a = none) (hZ:∀ (j:Nat) (d:D) (lv:Nat),Z'[j]? = some (some (d,lv)) -> a ∉ (vf' j).2) (hl:FpL s'.heap a) (hl':FpL h' a) (hs:Heap.SameBut a s'.heap h') (htk:1 <= tk) :
  Stp c h0z f0 env nm Z vf s Z' vf' { s' with heap:=h',toks:=tk }:=by
 refine nn fun gN=>?_
 have iv:=x.iv
 obtain ⟨m,hn⟩:=iv.rd.ns
 obtain ⟨oa,va,ka,a1,a2,a3⟩:=hl
 have hk:∀ b o,b ≠ a -> s'.heap.get? b = some o -> h'.get? b = some o:=fun b o hb e=>hs.extBut b o hb e
 have hL:env.locals ≠ a:=fun q=>zB hn (q ▸ a1) (JK a3) (q ▸ rfl)
 have hcl:∀ y,env.cells.lookup y ≠ some a:=fun y q=>by
  obtain ⟨_,v,o,z1,z2⟩:=iv.ce y a q
  rw [a1] at z1;obtain rfl:=vAy z1;rw [a3] at z2;cases z2
 have kt:∀ b o,b = a -> s'.heap.get? b = some o -> ∃ T,o.cls = .type T /\ T ≠ "tuple":=fun b o z e=>by
  obtain rfl:=z.symm;rw [a1] at e;obtain rfl:=vAy e;exact ⟨"list",a2,by decide⟩
 refine gN ?_
 clear gN
 refine ⟨⟨⟨⟨fun b o e=>hk b o (fun q=>by rw [q,iv.nb ha0] at e;exact nos e) (iv.rd.bs.1 b o e),htk⟩,⟨m,hn.at' fun o e=>hk _ o hL e⟩,iv.rd.nb,iv.rd.fn,iv.rd.gl,iv.rd.bl,iv.rd.cl,fun i d lv e=>?_⟩,
  fun b o _ e=>?_,iv.nl,fun y b e=>?_,iv.cd,iv.nd,fun i b hb=>?_,iv.org,fun i d lv e q b t r=>?_,fun i d lv e q=>?_,iv.bh⟩,?_,fun b o hb e=>?_,x.gr,fun b hb=>?_⟩
 ·refine nn fun gN=>?_
  obtain ⟨y,h1,⟨b1,b2,b3⟩,h3⟩:=iv.rd.var i d lv e
  refine gN ?_
  clear gN
  refine ⟨y,h1,⟨b1,b2,?_⟩,h3.keepOn (W:=(· = a)) (fun b o z e _=>hk b o z e) kt fun b hb z=>hZ i d lv e (z ▸ hb)⟩
  rcases b3 with ⟨b4,m'',b5,b6⟩ | ⟨b4,cl,b5,o,b6,b7⟩
  ·exact .inl ⟨b4,m'',b5.at' fun o e=>hk _ o hL e,b6⟩
  ·exact .inr ⟨b4,cl,b5,o,hk cl o (fun q=>hcl y (q ▸ b5)) b6,b7⟩
 ·obtain ⟨h1,sl,h2⟩:=iv.kb b o id e
  have hb:b ≠ a:=fun q=>by rw [q,ha0] at e;exact nos e
  exact ⟨fun nd=>hk b o hb (h1 nd),sl,hk b _ hb h2⟩
 ·refine nn fun gN=>?_
  obtain ⟨h1,v,o,h2,h3⟩:=iv.ce y b e
  refine gN ?_
  clear gN
  exact ⟨h1,v,o,hk b o (fun q=>hcl y (q ▸ e)) h2,h3⟩
 ·by_cases q:b = a
  ·subst q;exact hl'
  ·refine nn fun gN=>?_
   obtain ⟨o,vs,j,h1,h2,h3⟩:=iv.al i b hb
   refine gN ?_
   clear gN
   exact ⟨o,vs,j,hk b o q h1,h2,h3⟩
 ·refine nn fun gN=>?_
  obtain ⟨h1,h2,⟨o,vs,j,w1,w2,w3⟩,h4⟩:=iv.own1 i d lv e q b t r
  refine gN ?_
  clear gN
  exact ⟨h1,h2,⟨o,vs,j,hk b o (fun z=>hZ i d lv e (by rw [r,z];exact vBA ..)) w1,w2,w3⟩,h4⟩
 ·obtain ⟨h1,h2⟩:=iv.own2 i d lv e q
  refine ⟨fun b hb=>?_,h2⟩
  refine nn fun gN=>?_
  obtain ⟨w0,⟨o,vs,j,w1,w2,w3⟩,w4⟩:=h1 b hb
  refine gN ?_
  clear gN
  exact ⟨w0,⟨o,vs,j,hk b o (fun z=>hZ i d lv e (z ▸ hb)) w1,w2,w3⟩,w4⟩
 ·obtain ⟨h,tk',q⟩:=x.same
  exact ⟨h',tk,by rw [q]⟩
 ·obtain ⟨h1,sl,h2⟩:=x.kp b o hb e
  have hbC:b ≠ a:=fun q=>by rw [q,ha] at e;exact nos e
  exact ⟨fun nd=>hk b o hbC (h1 nd),sl,hk b _ hbC h2⟩
 ·by_cases q:b = a
  ·rw [q];exact ha
  ·refine x.ex b ?_
   cases e:s'.heap.get? b with
   | none=>rfl
   | some o=>have:=hk b o q e;dsimp only at hb;rw [hb] at this;exact nos this
theorem Rps.keepMut (rs:Rps c.mg s.heap vs ds fp) (iv:Iv c h0z f0 env nm Z vf s) (k:KpP (Mut env Z vf) s.heap h) (hf:∀ a ∈ fp,¬ Mut env Z vf a):Rps c.mg h vs ds fp:=by
 refine (qA (W:=Mut env Z vf) (fun b o hb e nd=>(k b o hb e).1 nd) (fun b o vs j hM e hc hd=>?_) (fun b o vs C hM e hc hd=>?_)).2 rs hf
 ·rcases hM.kind iv e with ⟨_,_,_,q⟩ | ⟨_,q⟩ | ⟨_,q,_⟩
  ·rw [hd] at q;cases q
  ·rw [hd] at q;cases q
  ·rw [hc] at q;injection q with z;exact absurd z (by decide)
 ·rcases hM.kind iv e with ⟨_,_,_,q⟩ | ⟨_,q⟩ | ⟨_,_,_,_,q⟩ <;> (rw [hd] at q;cases q)
def jKZ:D -> Bool
 | .list xs=>decide (xs.length + 1 <= lim)
 | _=>false
def jVE (ix:Nat) (g:G -> Option (R (List D))) (Z:G):Option O:=okR (g Z) fun ds=>if ds.all jKZ && decide (ds.length <= lim /\ ix < Z.length) then some (.next (Z.set ix none)) else none
inductive AInv (c:Cx) (h0z:Heap) (f0:List Addr) (env:Env) (nm:List Str) (Z:G) (vf:Tb) (s:Shared) (Z':G) (I B:Addr) (W:Nat -> Heap -> Prop) (vs:List Value) (ds:List D) (s':Shared) (k:Nat):Prop
 | mk {i:Nat} {vf':Tb} {fp:List Addr} (sp:Stp c h0z f0 env nm Z vf s Z' vf' s') (hW:W i s'.heap) (rs:Rps c.mg s'.heap (vs.drop i) (ds.drop i) fp) (hd:(B :: fp).Nodup) (hi:i <= ds.length)
   (hf:∀ a ∈ B :: fp,s.heap.get? a = none /\ Nd s'.heap a) (hv:∀ a ∈ B :: fp,∀ (j:Nat) (d:D) (lv:Nat),Z'[j]? = some (some (d,lv)) -> a ∉ (vf' j).2) (hM:¬ Mut env Z' vf' I) (hk:k = ds.length + 1 - i):AInv c h0z f0 env nm Z vf s Z' I B W vs ds s' k
theorem jMK {lp ep pos':Pos} {i7:Int} {k7:Nat} {g:G -> Option (R (List D))} (ix:Nat) (h:qDQ c false n sc nm es g) (hx:autoParam (nm[ix]? = some x) yL) (hk:autoParam (stK sc x = true) yK) (ho:autoParam (jNN x = true) yK)
  (hfs:autoParam (∀ env v,foldedSetIterable (.List es lp) env v = pure v) yN) (hi:autoParam (∀ env:Env,env.scope = sc -> interactive env = false) yE)
  (hmf:autoParam (Xi (.Name x np) "append" ap [.Constant (.int i7) k7 cp] ep) yM) :
  jKM c false n sc nm (.For (.Name x px) (.List es lp) [.Expr (.Call (.Attribute (.Name x np) "append" ap) [.Constant (.int i7) k7 cp] [] ep) pos'] [] pos) (jVE ix g):=by
 intro A l env h0z f0 Z vf s r Q E hsF hR iv hf hQ hE
 have hsc:=hsF.1
 obtain ⟨m,hn⟩:=iv.rd.ns
 ··refine nn fun gN=>?_
   obtain ⟨ds,hg,hf⟩:=jIM hf
   obtain ⟨hc,hf⟩:=ifs hf
   obtain rfl:=vAy hf
   obtain ⟨hsh,hlen⟩:=XM hc
   obtain ⟨hlen,hix⟩:=vCs hlen
   refine gN ?_
   refine wpAny_For (List_ (h A l env Z vf s _ ds _ E hsc hR iv.rd hg fun vs fp s1z st rs w1 w2=>?_)) (hfs env)
   refine vBm ?_ (show vs.toArray.size <= sizeLine by rw [vCX,(rs.length:vs.length = ds.length)];unfold sizeLine;unfold lim at hlen;exact vAz hlen (by decide))
   have hp:=St.push (c:=c) (L:=env.locals) (s:=s1z) (iv.keep st).rd.bs { cls:=.type "list",data:=.seq vs.toArray }
   have hBn:s1z.heap.get? s1z.heap.objs.size = none:=Jq _
   have hBl:(s1z.heap.push { cls:=.type "list",data:=.seq vs.toArray }).IsList s1z.heap.objs.size vs.toArray:=⟨_,vBL _ rfl,rfl,_,rfl⟩
   generalize hB:s1z.heap.objs.size = B at hBn hBl ⊢
   generalize hs2:(s1z.heap.push { cls:=.type "list",data:=.seq vs.toArray }:Heap) = h2 at hp hBl ⊢
   refine vCT hBl ?_
   refine nn fun gN=>?_
   obtain ⟨fpw,W,hW,h0,hfp,hfp',hWI⟩:=qn (prog:=c.prog) (w:=c.w) (hm:=false) (A:=A) (h:=h2) hR.hm hBl
   have stA:=st.trans (hp.trans (St.push (c:=c) (L:=env.locals) (s:={ s1z with heap:=h2 }) hp.bs (xe B)))
   have hIn:h2.get? h2.objs.size = none:=Jq _
   refine gN ?_
   generalize hI:h2.objs.size = I at hIn hW hWI hfp hfp' h0 ⊢
   have hsI:s.heap.get? I = none:=(st.trans hp).kp.gone hn hIn
   have hBI:B ≠ I:=fun q=>by obtain ⟨o,e,_⟩:=hBl;rw [q,hIn] at e;exact nos e
   rw [vCX,(rs.length:vs.length = ds.length)] at hW
   have hvn:∀ a,s.heap.get? a = none -> ∀ j,a ∉ (vf j).2:=fun a ha j hj=>by
    obtain ⟨o,_,_,z,_⟩:=iv.al j a hj
    rw [ha] at z;exact nos z
   have hnm:∀ a,s.heap.get? a = none -> ∀ Z',Wk Z' Z -> ¬ Mut env Z' vf a:=fun a ha Z' hw hM=>by
    rcases hM with q | ⟨y,q⟩ | q
    ·obtain ⟨o',_,_,z,_⟩:=hn;rw [<- q,ha] at z;exact nos z
    ·obtain ⟨_,_,o',z,_⟩:=iv.ce y a q;rw [ha] at z;exact nos z
    ·obtain ⟨⟨o',_,_,z,_⟩,_⟩:=(q.wk hw).lst iv;rw [ha] at z;exact nos z
   have hst1:St c env.locals s1z { s1z with heap:=h2.push (xe B) }:=hp.trans (St.push (c:=c) (L:=env.locals) (s:={ s1z with heap:=h2 }) hp.bs (xe B))
   refine codeAny_forLoop_any (fun k s'=>AInv c h0z f0 env nm Z vf s (Z.set ix none) I B W vs ds s' k) ?_ (ds.length + 1) ?_
   ·rintro k s' ⟨sp,hWi,rsi,hdi,hii,hfi,hvi,hMi,hkk⟩
    rename_i i vfi fpi
    by_cases hlt:i < ds.length
    ·refine wpAny_with_toks sp.iv.rd.bs.2 (hW.item i _ _ _ hlt hWi fun v h3z tk3z hPv hW3 hk3z ht3=>?_)
     refine nn fun hN=>?_
     have sp2:=sp.iter hsI (hWI i _ hWi) hMi hk3z ht3 (iv.fresh hsI)
     have hlv:i < vs.length:=by rw [(rs.length:vs.length = ds.length)];exact hlt
     rw [List.drop_eq_getElem_cons hlt,List.drop_eq_getElem_cons hlv] at rsi
     obtain ⟨r1,r2⟩:=rsi.invC
     rename_i g fr
     have hv:v = vs[i]:=by
      have:=hPv
      rw [List.getElem?_toArray,vBP hlv] at this
      exact (vAy this).symm
     obtain ⟨xs,hxs,hxl⟩:∃ xs,ds[i] = .list xs /\ xs.length + 1 <= lim:=by
      have:=vBt.mp hsh ds[i] (List.getElem_mem hlt)
      cases q:ds[i] <;> rw [q] at this <;> first | exact bft this | exact ⟨_,rfl,vCs this⟩
     rw [hxs,<- hv] at r1
     obtain ⟨a,va,ga,ev,rfl,hla,rsa⟩:=jIS r1
     subst ev
     obtain ⟨oI,TI,iI1,iI2,iI3,iI4,iI5⟩:=id (hWI i _ hWi)
     have hnI:∀ b o vs k,s'.heap.get? b = some o -> o.cls = .type "list" -> o.data = .seq vs k -> b ≠ I:=fun b o vs k e1 e2 e3 q=>by
      rw [q,iI1] at e1;rw [<- vAy e1,iI3] at e2;injection e2 with z;exact iI4 z
     have k3:∀ b o,b ≠ I -> s'.heap.get? b = some o -> h3z.get? b = some o:=fun b o hb e=>hk3z b o (by simpa using hb) e
     have kt3:∀ b o,b = I -> s'.heap.get? b = some o -> ∃ T,o.cls = .type T /\ T ≠ "tuple":=fun b o z e=>by
      rw [z,iI1] at e;rw [<- vAy e];exact ⟨TI,iI3,iI5⟩
     have hfpI:∀ {v d f},Rp c.mg s'.heap v d f -> ∀ b ∈ f,b ≠ I:=fun r b hb=>by
      obtain ⟨o,vs,k,e1,e2,e3⟩:=r.fp_list b hb;exact hnI b o vs k e1 e2 e3
     have r2':Rps c.mg h3z (vs.drop (i + 1)) (ds.drop (i + 1)) fr:=r2.keepOn (W:=(· = I)) (fun b o z e _=>k3 b o z e) kt3 fun b hb=>by
      obtain ⟨o,vs,k,e1,e2,e3⟩:=r2.fp_list b hb;exact hnI b o vs k e1 e2 e3
     have hyoung:∀ b,s.heap.get? b = none -> b ≠ env.locals /\ ∀ y,env.cells.lookup y ≠ some b:=fun b hb=>⟨fun q=>by
      obtain ⟨o',_,_,z,_⟩:=hn;rw [<- q,hb] at z;exact nos z,fun y q=>by
      obtain ⟨_,_,o',z,_⟩:=iv.ce y b q;rw [hb] at z;exact nos z⟩
     refine hN <| vBM (vCU (jGD (lv:=0) (Zbz:=Z.set ix none) sp2.iv (St.refl sp2.iv.rd.bs) (r1.keepOn (W:=(· = I)) (fun b o z e _=>k3 b o z e) kt3 (hfpI r1):Rp c.mg h3z (.ref a) (.list xs) (a :: ga)) (fun j d l e=>⟨l,vBI _,e⟩) (fun b hb=>.inl (iv.fresh (hfi b (vBC _ (vBU _ hb))).1)) (fun h=>absurd h (vBX _)) (fun h=>absurd h (vBX _)) (fun b j d' l' hj e hh hb=>?_) hsc hx hk ho fun s4z sp4 hk4=>?_))
     ·refine hvi b (vBC _ (vBU _ hb)) j d' l' e ?_
      rcases hh with ⟨_,t,q⟩ | ⟨_,q⟩
      ·rw [q];exact vBA ..
      ·exact q
     refine nn fun hN=>?_
     have hj:((Z.set ix none).set ix (some (D.list xs,0)))[ix]? = some (some (.list xs,0)):=by
      rw [vCR (by rw [List.length_set];exact hix)]
     obtain ⟨y1,z1,z2,z3⟩:=sp4.iv.rd.var ix _ 0 hj
     rw [hx] at z1;obtain rfl:=vAy z1
     rw [if_pos rfl] at z2 z3
     have hbnI:∀ b ∈ B :: (a :: ga ++ fr),b ≠ I:=fun b hb=>by
      rcases vCu.mp hb with q | q
      ·exact q ▸ hBI
      ·rcases vBK.mp q with q | q
       ·exact hfpI r1 b q
       ·obtain ⟨o,vs,k,e1,e2,e3⟩:=r2.fp_list b q;exact hnI b o vs k e1 e2 e3
     have hNd4:∀ b ∈ B :: (a :: ga ++ fr),Nd s4z.heap b:=fun b hb=>by
      obtain ⟨hb0,o,vs,k,e1,e2,e3⟩:=hfi b hb
      exact ⟨o,vs,k,(fun b o hb hbI e=>hk4 b o (hyoung b hb).1 (hyoung b hb).2 (k3 b o hbI e):∀ b o,s.heap.get? b = none -> b ≠ I -> s'.heap.get? b = some o -> s4z.heap.get? b = some o) b o hb0 (fun q=>hbnI b hb q) e1,e2,e3⟩
     have haB:a ∈ B :: (a :: ga ++ fr):=vBC _ (vBA ..)
     have hla4:s4z.heap.IsList a va:=by
      obtain ⟨o,e1,e2,k,e3⟩:=hla
      exact ⟨o,(fun b o hb hbI e=>hk4 b o (hyoung b hb).1 (hyoung b hb).2 (k3 b o hbI e):∀ b o,s.heap.get? b = none -> b ≠ I -> s'.heap.get? b = some o -> s4z.heap.get? b = some o) a o (hfi a haB).1 (hnI a o va k e1 e2 e3) e1,e2,k,e3⟩
     obtain ⟨oa,_,o1,o2,_,o4⟩:=IsList.get hla4 (hNd4 a haB)
     refine hN <| wpAny_execs_cons (vCZ ?_ (hi env hsc))
     refine MethodCall_ (XS sp4.iv.rd.fn z2 (getMethod_list_append o1 o2 o4 ?_)) (hmf env)
     refine callWith_method1 (args_cons ((JC (c:=c) (hm:=false) (n:=n) (nm:=nm)).ok hsc ((sp2.trans sp4).room iv hR) sp4.iv.rd rfl (fun v7 fp7 s5 st5 rp5 _ _=>?_)) rfl) rfl
     refine nn fun hN=>?_
     refine hN <| vCg ?_
     refine nn fun hN=>?_
     obtain ⟨m4,hn4⟩:=sp4.iv.rd.ns
     have hla5:s5.heap.IsList a va:=by
      obtain ⟨o,e1,e2,k,e3⟩:=hla4
      exact ⟨o,st5.kp.keep hn4 e1 (JK e3),e2,k,e3⟩
     refine hN <| Z7 hla5 ((hNd4 a haB).keep st5.kp hn4) (fun h6z hl6 hn6 hs6=>?_) (by rw [(by simpa using rsa.length:va.size = xs.length)];unfold lim at hxl;unfold sizeLine;exact vAz (vAz (vCW _) hxl) (by decide))
     refine vBp <| nn fun hN=>?_
     have hjx:∀ (j:Nat) (d:D) (lv:Nat),(Z.set ix none)[j]? = some (some (d,lv)) -> j ≠ ix:=fun j d lv e q=>by
      rw [q,vCR hix] at e;exact nos (vAy e)
     have hwk4:Wk (Z.set ix none) ((Z.set ix none).set ix (some (D.list xs,0))):=fun j d lv e =>
      ⟨lv,vBI _,(List.getElem?_set_ne (Ne.symm (hjx j d lv e))).trans e⟩
     have hva4:∀ b ∈ B :: (a :: ga ++ fr),∀ (j:Nat) (d:D) (lv:Nat),(Z.set ix none)[j]? = some (some (d,lv)) -> b ∉ (if j = ix then ((.ref a,a :: ga):Value × List Addr) else vfi j).2:=fun b hb j d lv e=>by
      rw [if_neg (hjx j d lv e)];exact hvi b hb j d lv e
     obtain ⟨ol,l1,kl,l2,l3⟩:=id hla5
     have hnd:=(vCv.mp hdi)
     have hne:∀ b ∈ B :: fr,b ≠ a:=fun b hb q=>(vCu.mp (q ▸ hb:a ∈ B :: fr)).elim (fun q=>hnd.1 (q ▸ vBA ..)) fun q=>(vCY.mp hnd.2).2.2 a (vBA ..) a q rfl
     have hsub:∀ b ∈ B :: fr,b ∈ B :: (a :: ga ++ fr):=fun b hb=>(vCu.mp hb).elim (fun q=>q ▸ vBA ..) ((fun b hb=>vBC _ (vBQ _ hb):∀ b ∈ fr,b ∈ B :: (a :: ga ++ fr)) b)
     have hNd6:∀ b ∈ B :: fr,Nd h6z b:=fun b hb=>by
      obtain ⟨o,vs,k,e1,e2,e3⟩:=(hNd4 b (hsub b hb)).keep st5.kp hn4
      exact ⟨o,vs,k,hs6.extBut b o (hne b hb) e1,e2,e3⟩
     have hMi3:¬ Mut env (Z.set ix none) (fun j=>if j = ix then ((.ref a,a :: ga):Value × List Addr) else vfi j) I:=by
      rintro (q | q | ⟨j,d,lv,q1,q2⟩)
      ·exact hMi (.inl q)
      ·exact hMi (.inr (.inl q))
      ·dsimp only at q2
       rw [if_neg (hjx j d lv q1)] at q2
       exact hMi (.inr (.inr ⟨j,d,lv,q1,q2⟩))
     obtain ⟨oJ,TJ,j1,j2,j3,j4,j5⟩:=id (hWI (i + 1) _ hW3)
     have haI:I ≠ a:=fun q=>by
      obtain ⟨o,e1,e2,k,e3⟩:=hla
      exact hnI a o va k e1 e2 e3 q.symm
     refine hN ⟨ds.length + 1 - (i + 1),by rw [hkk];exact Nat.sub_lt_sub_left (Nat.lt_succ_of_lt hlt) (vCd i),.mk ((((sp2.trans sp4).trans (sp4.iv.step st5)).trans ((sp4.iv.keep st5).wkS hwk4)).lst (tk:=s5.toks) (hfi a haB).1 (iv.fresh (hfi a haB).1) (hva4 a haB) ⟨ol,va,_,l1,kl,l3⟩ (by obtain ⟨o,e1,e2,k,e3⟩:=hl6;exact ⟨o,_,k,e1,e2,e3⟩:FpL h6z a) hs6 st5.bs.2) ?_ ?_ ?_ hlt (fun b hb=>⟨(hfi b (hsub b hb)).1,hNd6 b hb⟩) (fun b hb=>hva4 b (hsub b hb)) hMi3 rfl⟩
     ·refine hW.frame _ _ _ hW3 fun b hb o e=>?_
      rcases hfp' rfl b hb with q | q <;> rw [q] at e ⊢
      ·rw [j1] at e
       rw [<- vAy e]
       exact hs6.extBut _ _ haI (st5.kp.keep hn4 (hk4 _ _ (hyoung _ hsI).1 (hyoung _ hsI).2 j1) j2)
      ·refine nn fun gN=>?_
       obtain ⟨hb0,o',vs',k',e1,e2,e3⟩:=hfi B (vBA ..)
       rw [k3 B o' hBI e1] at e
       refine gN ?_
       rw [<- vAy e]
       exact hs6.extBut _ _ (hne B (vBA ..)) (st5.kp.keep hn4 ((fun b o hb hbI e=>hk4 b o (hyoung b hb).1 (hyoung b hb).2 (k3 b o hbI e):∀ b o,s.heap.get? b = none -> b ≠ I -> s'.heap.get? b = some o -> s4z.heap.get? b = some o) B o' hb0 hBI e1) (JK e2))
     ·have r4:Rps c.mg s4z.heap (vs.drop (i + 1)) (ds.drop (i + 1)) fr:=r2'.keepMut sp2.iv sp4.kp fun b hb hM=>by
       have hb0:=(hfi b ((fun b hb=>vBC _ (vBQ _ hb):∀ b ∈ fr,b ∈ B :: (a :: ga ++ fr)) b hb)).1
       rcases hM with q | ⟨y,q⟩ | ⟨j,d,lv,q1,q2⟩
       ·exact (hyoung b hb0).1 q
       ·exact (hyoung b hb0).2 y q
       ·refine hvi b ((fun b hb=>vBC _ (vBQ _ hb):∀ b ∈ fr,b ∈ B :: (a :: ga ++ fr)) b hb) j d lv q1 ?_
        rcases q2 with ⟨_,t,q⟩ | ⟨_,q⟩
        ·rw [q];exact vBA ..
        ·exact q
      exact (st5.kp.rps hn4 r4).keepOn (W:=(· = a)) (fun b o z e _=>hs6.extBut b o z e) (fun b o z e=>⟨"list",by rw [z,l1] at e;rw [<- vAy e];exact kl,by decide⟩) fun b hb=>hne b (vBC _ hb)
     ·exact vCv.mpr ⟨fun q=>hnd.1 (vBQ _ q),(vCY.mp hnd.2).2.1⟩
    ·refine wpAny_with_toks sp.iv.rd.bs.2 (hW.done _ _ _ (vCI hii (vBy hlt) ▸ hWi) fun h3z tk3z hk3z ht3=>?_)
     exact vBp (hQ _ _ ⟨vfi,sp.iter hsI (hWI i _ hWi) hMi hk3z ht3 (iv.fresh hsI)⟩)
   ·refine AInv.mk (i:=0) (fp:=fp) ((iv.step stA).trans ((iv.keep stA).wkS (jHI ix Z:Wk (Z.set ix none) Z)):Stp c h0z f0 env nm Z vf s (Z.set ix none) vf { s1z with heap:=h2.push (xe B) }) h0 (by rw [List.drop_zero,List.drop_zero];exact hst1.kp.rps (st.kp.ns m hn) rs) ?_ (vBz _) (fun a ha=>?_) (fun a ha j d lv e=>hvn a ?_ j) (hnm I hsI _ (jHI ix Z:Wk (Z.set ix none) Z)) rfl
    ·refine vCv.mpr ⟨fun q=>?_,w2⟩
     obtain ⟨o,_,_,z,_⟩:=(w1 B q).2
     rw [hBn] at z;exact nos z
    ·rcases vCu.mp ha with q | ha
     ·rw [q]
      refine nn fun gN=>?_
      obtain ⟨o,o1,o2,k,o3⟩:=hBl
      exact gN ⟨(st.kp.gone hn hBn:s.heap.get? B = none),o,_,k,vBB _ o1,o3,by
       have:=vBL s1z.heap (o:={ cls:=.type "list",data:=.seq vs.toArray }) rfl
       rw [hs2,hB,o1] at this;rw [vAy this]⟩
     ·exact ⟨(w1 a ha).1,(w1 a ha).2.keep hst1.kp (st.kp.ns m hn)⟩
    ·rcases vCu.mp ha with q | ha
     ·exact q ▸ (st.kp.gone hn hBn:s.heap.get? B = none)
     ·exact (w1 a ha).1
end
open Builtin.Str PySem.StrLaws
section
variable {n:Nat}
noncomputable def zj (lo hi:Option Int) (s:List Nat):Option (List Nat):=match lo,hi with
 | none,some i=>if 0 <= i /\ i <= s.length then some (s.take i.toNat) else none
 | some i,none=>if 0 <= i /\ i <= s.length then some (s.drop i.toNat) else none
 | _,_=>none
def kq (lo hi:Option Int):D -> Tj
 | .str s=>if s.length <= lim then (zj lo hi s).map fun t=>.ok (.str t,2) else none
 | _=>none
theorem jOJ {a:D} (h:kq lo hi a = some r):∃ s t,s.length <= lim /\ a = .str s /\ zj lo hi s = some t /\ r = .ok (.str t,2):=by
 unfold kq at h
 split at h
 ·split at h
  ·obtain ⟨t,e1,rfl⟩:=vBD.mp h
   exact ⟨_,t,by assumption,rfl,e1,rfl⟩
  ·exact nos h
 ·exact nos h
theorem jXO {s t:List Nat} (h:zj lo hi s = some t):(strSliceIndices lo hi 1 (Str.mk s.toArray).length).filterMap ((Str.mk s.toArray).cps[·]?) = t /\ ((strSliceIndices lo hi 1 (Str.mk s.toArray).length).length = (Str.mk s.toArray).length -> t = s) /\ t.length <= s.length:=by
 have hl:(Str.mk s.toArray).length = s.length:=by simp [Str.length]
 have key:∀ {a b:Nat},a <= b -> b <= s.length -> (strSliceIndices (some (a:Int)) (some (b:Int)) 1 (Str.mk s.toArray).length).filterMap ((Str.mk s.toArray).cps[·]?) = (s.drop a).take (b - a) /\ (strSliceIndices (some (a:Int)) (some (b:Int)) 1 (Str.mk s.toArray).length).length = b - a:=fun {a b} h1 h2=>by
  refine ⟨?_,?_⟩
  ·simpa using (sliced_plain (Str.mk s.toArray) (a:=a) (b:=b) h1 (by rw [hl];exact h2))
  ·rw [strSliceIndices_plain h1 (by rw [hl];exact h2)];simp
 unfold zj at h
 split at h
 ·rename_i i
  split at h
  ·refine nn fun gN=>?_
   rename_i hi
   obtain rfl:=vAy h
   obtain ⟨k,rfl⟩:=vBu hi.1
   refine gN ?_
   clear gN
   rw [sliceIdx_none_lo]
   obtain ⟨e1,e2⟩:=key (vBz k) (by exact_mod_cast hi.2:k <= s.length)
   refine ⟨by simpa using e1,fun e=>?_,List.length_take_le' ..⟩
   have e2:(strSliceIndices (some 0) (some (k:Int)) 1 (Str.mk s.toArray).length).length = k - 0:=e2
   rw [e2,hl] at e
   exact vBw (by simp;exact vAz (vBs e.symm) (Nat.sub_le ..))
  ·exact nos h
 ·rename_i i
  split at h
  ·refine nn fun gN=>?_
   rename_i hi
   obtain rfl:=vAy h
   obtain ⟨k,rfl⟩:=vBu hi.1
   refine gN ?_
   clear gN
   rw [sliceIdx_none_hi,hl]
   obtain ⟨e1,e2⟩:=key (by exact_mod_cast hi.2:k <= s.length) (vBI _)
   rw [hl] at e1 e2
   refine ⟨?_,fun e=>?_,by simp⟩
   ·rw [e1];simp [vBw]
   ·rw [e2] at e
    rcases Nat.eq_zero_or_pos k with rfl | h0
    ·simp
    ·exact absurd e (vCn (Nat.sub_lt (vCP h0 (by exact_mod_cast hi.2:k <= s.length)) h0))
  ·exact nos h
 ·exact nos h
theorem jGS {lo hi:Option Expr} {p:Pos} {g k:G -> Option (R (Option Int))} (h1:Den c hm n sc nm e1z o1 f) (h2:DenO c hm n sc nm lo g) (h3:DenO c hm n sc nm hi k) :
  Den c hm n sc nm (.Subscript e1z (.Slice lo hi none p) pos) [] (fun Z=>JR (f Z) fun a=>JR (g Z) fun x=>JR (k Z) fun y=>kq x y a.1):=by
 intro A l env Z vf s r Q E hsc hR hRd hf hQ hE
 obtain ⟨m,hn⟩:=hRd.ns
 refine Subscript_ (h1.run hsc hR hRd hf (fun a la _ hf va fa s1z st1z ra ta lva hR1 hRd1=>?_) hE)
 refine wpAny_Slice (h2.run hsc hR1 hRd1 hf (fun x _ hf vx s2z st2z px hR2z hRd2z=>?_) (fun x k s' e fl=>hE x k s' e (fl.back st1z hn)))
 refine h3.run hsc hR2z hRd2z hf (fun y _ hf vy s3z st3z py hR3z hRd3z=>?_) (fun x k s' e fl=>hE x k s' e (fl.back (st1z.trans st2z) hn))
 have st:=(st1z.trans st2z).trans st3z
 refine vBM (a:=Value.none) ?_
 refine nn fun gN=>?_
 obtain ⟨xs,ts,hlen,hae,hts,rfl⟩:=jOJ hf
 dsimp only at hae
 subst hae
 obtain ⟨t,rfl,rfl⟩:=ra.inv
 have hp:=St.push (c:=c) (L:=env.locals) (s:=s3z) hRd3z.bs { cls:=.type "slice",data:=.fields #[vx,vy,.none] }
 obtain ⟨l',rfl,rfl⟩:∃ l':Option (Int × Tok),vx = partValue l' /\ x = l'.map (·.1):=by
  cases px with
  | none=>exact ⟨none,rfl,rfl⟩
  | int i t=>exact ⟨some (i,t),rfl,rfl⟩
 obtain ⟨u',rfl,rfl⟩:∃ u':Option (Int × Tok),vy = partValue u' /\ y = u'.map (·.1):=by
  cases py with
  | none=>exact ⟨none,rfl,rfl⟩
  | int i t=>exact ⟨some (i,t),rfl,rfl⟩
 refine gN ?_
 clear gN
 refine tail_any (ops:=_) (typeIs_str _ _ t) F.slot_str_getitem.lookup ?_ rfl
 refine wpAny_getItem_str_slice (l:=l') (u:=u') (st:=none) ⟨_,vBL _ rfl,rfl,rfl⟩ rfl ?_
 obtain ⟨e1,e2,e3⟩:=jXO hts
 unfold sliceMade slicePicked
 by_cases hc:(((none:Option (Int × Tok)).map (·.1)).getD 1 == 1 && (strSliceIndices (l'.map (·.1)) (u'.map (·.1)) (((none:Option (Int × Tok)).map (·.1)).getD 1) (Str.mk xs.toArray).length).length == (Str.mk xs.toArray).length) = true
 ·rw [if_pos hc]
  have h4:(strSliceIndices (l'.map (·.1)) (u'.map (·.1)) 1 (Str.mk xs.toArray).length).length = (Str.mk xs.toArray).length:=by
   exact vBc.mp ((Bool.and_eq_true_iff.mp hc).2)
  have:=e2 h4
  subst this
  exact hQ _ _ _ _ _ rfl (st.trans hp) (.str _ t) Tr.nil (Lv.nil _ _)
 ·rw [if_neg hc]
  refine ⟨?_,hQ _ _ _ _ _ rfl ((st.trans hp).trans (St.tok hp.bs 1)) ?_ Tr.nil (Lv.nil _ _)⟩
  ·show (Str.mk (List.filterMap _ (strSliceIndices (l'.map (·.1)) (u'.map (·.1)) 1 (Str.mk xs.toArray).length)).toArray).length <= sizeLine
   rw [e1]
   show ts.toArray.size <= sizeLine
   rw [vCX]
   unfold lim at hlen;unfold sizeLine
   exact vAz e3 (vAz hlen (by decide))
  ·show Rp c.mg _ (.str (Str.mk (List.filterMap _ (strSliceIndices (l'.map (·.1)) (u'.map (·.1)) 1 (Str.mk xs.toArray).length)).toArray) _) _ _
   rw [e1]
   exact .str _ _
end
section
variable {n:Nat}
noncomputable def iC:Expr -> Int × Nat × Pos
 | .Constant (.int i) k p=>(i,k,p)
 | _=>(0,0,⟨0,0,0,0⟩)
def rC:Expr -> List (Int × Nat × Pos) × Pos
 | .List es p=>(es.map iC,p)
 | _=>([],⟨0,0,0,0⟩)
noncomputable def cI (x:Int × Nat × Pos):Expr:=.Constant (.int x.1) x.2.1 x.2.2
def cR (x:List (Int × Nat × Pos) × Pos):Expr:=.List (x.1.map cI) x.2
noncomputable def dR (x:List (Int × Nat × Pos) × Pos):D:=.list (x.1.map fun y=>.int y.1)
theorem jZQ:∀ xs:List (Int × Nat × Pos),DenA c hm n sc nm (xs.map cI) [] (fun _=>some (.ok (xs.map fun y=>.int y.1))):=by
 intro xs
 induction xs with
 | nil =>
  exact JD
 | cons _ xs ih =>
  exact JA (o1:=[]) (o2:=[]) JC (ih)
theorem jZO:∀ rs:List (List (Int × Nat × Pos) × Pos),(rs.all fun r=>decide (r.1.length <= 1000000)) = true -> DenA c hm n sc nm (rs.map cR) [] (fun _=>some (.ok (rs.map dR))):=by
 intro rs
 induction rs with
 | nil =>
  intro _
  exact JD
 | cons r rs ih =>
  intro h
  have h1:Den c hm n sc nm (cR r) [] (fun _=>J3 (r.1.map fun y=>.int y.1)):=JV (jZQ r.1)
  have e3:(fun _:G=>J3 (r.1.map fun y=>.int y.1)) = fun _=>some (.ok (dR r,vg (r.1.map fun y=>.int y.1))):=by
   funext _;unfold J3;rw [if_pos (by rw [vBF];exact vCs (XM h).1)];rfl
  rw [e3] at h1
  exact JA (o1:=[]) (o2:=[]) h1 (ih (XM h).2)
theorem qCY (h:autoParam ((es,ds,true) = ((es.map rC).map cR,(es.map rC).map dR,(es.map rC).all fun r=>decide (r.1.length <= 1000000))) yK):Den c hm n sc nm (.List es pos) [] (fun _=>J3 ds):=by
 have h1:es = (es.map rC).map cR:=congrArg Prod.fst h
 have h2:ds = (es.map rC).map dR:=congrArg (·.2.1) h
 have h4:=jZO (c:=c) (hm:=hm) (n:=n) (sc:=sc) (nm:=nm) _ (congrArg (·.2.2) h:true = (es.map rC).all fun r=>decide (r.1.length <= 1000000)).symm
 rw [<- h1,<- h2] at h4
 exact JV h4
end
section
variable {p:Program} {s:Shared} {w:World}
theorem qMD (T:Top p loose mean mg mb s.heap) (h:valOf p "MOST_WORDS" = some (.int 120)):Mw (Yg prog w s mg mb):=by
 obtain ⟨v,h1,h2⟩:=T.const _ _ h
 cases (h2 s.heap)
 exact ⟨_,h1⟩
theorem qOV:Fam (Yg prog w s mg mb) (Yg prog w s mg mb) :=
 ⟨⟨_,_,_,rfl⟩,fun _ _ e=>e,(fun _ hb=>(nomatch hb)),⟨(fun _ hb=>(nomatch hb)),(fun _ _ hb=>(nomatch hb)),⟨fun _=>0,fun _=>0,(fun _ _ e=>(nomatch e)),(fun _ _ _ _ e=>(nomatch e)),(fun _ _ _ _ e=>(nomatch e))⟩,fun _ _ e=>(nomatch e)⟩⟩
theorem FnW.mono {n:Nat} (h:FnW c0z hm n x Yz11) (hn:autoParam (n <= n') yD):FnW c0z hm n' x Yz11:=by
 obtain ⟨a,o,fd,h1,h2,h3,h4⟩:=h
 exact ⟨a,o,fd,h1,h2,h3,h4.mono hn⟩
theorem qLZ (T:Top p loose mean mg mb s.heap) (h:PageK s.heap P i K C):Pc (Yg prog w s mg mb) P i K C:=⟨⟨h.kin,h.ns,h.chk,h.fd⟩,mg_of h.kin T.g h.ns⟩
theorem qGS {d:DefRec} (h:QZ c d):qNN c d.name:=by
 obtain ⟨a,o,pm,code,doc,h1,h2,h3,_⟩:=h
 exact ⟨a,o,_,h1,h2,h3⟩
end
section
variable {n:Nat} {s:Shared}
theorem Rps.setN {v:Value} {fd:List Addr} (r:Rp X h v d fd) {vs ds f} (i:Nat) (rs:Rps X h vs ds f):∃ g,Rps X h (vs.set i v) (ds.set i d) g /\ ∀ b ∈ g,b ∈ f \/ b ∈ fd :=
 rs.ind (Ps:=fun vs ds f=>∀ i:Nat,∃ g,Rps X h (vs.set i v) (ds.set i d) g /\ ∀ b ∈ g,b ∈ f \/ b ∈ fd) (fun _=>⟨[],.nil,fun _ h=>(nomatch h)⟩)
  (fun r0 rs ih i=>match i with
   | 0=>⟨_,.cons r rs,fun b hb=>(vBK.mp hb).elim .inr fun q=>.inl (vBQ _ q)⟩
   | i + 1=>let ⟨_,h1,h2⟩:=ih i;⟨_,.cons r0 h1,fun b hb=>(vBK.mp hb).elim (fun q=>.inl (vBU _ q)) fun q=>(h2 b q).imp (vBQ _) id⟩) i
def qLT (occ:List Nat) (i:Nat) (xs:List D) (a:D × Nat) (b:D × Nat) (Z:G):Option O:=ofI b.1 fun k=>if occ.contains i = false /\ 0 <= k /\ k < xs.length then some (.next ((JX occ Z).set i (some (.list (xs.set k.toNat a.1),1)))) else none
def jEX (occ:List Nat) (i:Nat) (f g:Tg) (Z:G):Option O :=
 atL Z i fun xs lv=>if 1 <= lv /\ xs.length <= lim then Yj (f Z) Z fun a=>Yj (g Z) Z fun b=>qLT occ i xs a b Z else none
theorem qO {ie:Expr} {spos:Pos} {occ2:List Nat} {g:Tg} (i:Nat) (h:Den c hm n sc nm e occ f) (h2:Den c hm n sc nm ie occ2 g) (hx:autoParam (nm[i]? = some x) yL)
  (hs:autoParam (∀ env:Env,env.scope = sc -> swapsWith e (some (.Subscript (.Name x px) ie spos)) pos.line env = pure false) yN) :
  jKM c hm n sc nm (.Assign [.Subscript (.Name x px) ie spos] e pos) (jEX occ i f g):=by
 intro A l env h0z f0 Z vf s r Q E hsF hR iv hf hQ hE
 obtain ⟨m,hn⟩:=iv.rd.ns
 obtain ⟨xs,lv,hgi,hf⟩:=jKE hf
 obtain ⟨⟨h1,hlen⟩,hf⟩:=ifs hf
 ··skip
   refine wpAny_Assign_Subscript (h.runS hsF.1 hR iv hf (fun d ld _ hg v fp s1z st rp tr lvl=>?_) hE) (hs env hsF.1)
   refine nn fun gN=>?_
   obtain ⟨a,t,vs,x',e1,e2,hl,hnd,hrs,e3,hb,hat,haj⟩:=(iv.keep st).lst hgi h1
   obtain ⟨a',t',vs',x'',-,e2',hl',-,-,-,-,-,-⟩:=iv.lst hgi h1
   rw [e2] at e2'
   obtain ⟨rfl,rfl⟩:=List.cons.inj e2'
   obtain ⟨oa,za,_⟩:=id hl'
   refine gN ?_
   rw [hx] at e3;obtain rfl:=vAy e3
   refine XS (iv.keep st).rd.fn hb ?_
   refine h2.runS hsF.1 ((iv.step st).room iv hR) (iv.keep st) hg (fun d2 ld2 _ hg2 v2 fp2 s2z st2 rp2 tr2 lvl2=>?_) (fun x s' q=>hE x s' (q.back (iv.step st)))
   ··refine nn fun gN=>?_
     obtain ⟨k,hk,hg2⟩:=Qe hg2
     have hk:d2 = .int k:=hk
     subst hk
     obtain ⟨⟨hio,hk0,hk1⟩,hg2⟩:=ifs hg2
     obtain rfl:=vAy hg2
     obtain ⟨tk,rfl,rfl⟩:=rp2.inv
     have hn1z:=st.kp.ns m hn
     obtain ⟨t'',hr',hsub⟩:=Rps.setN (st2.kp.rp hn1z rp) k.toNat (st2.kp.rps hn1z hrs)
     refine gN ?_
     refine jAS (IsList.st st2 hn1z hl) (hnd.keep st2.kp hn1z) hk0 (Int.lt_trans (Int.lt_of_lt_of_le hk1 (by unfold lim at hlen;exact Int.ofNat_le.mpr hlen:(xs.length:Int) <= 10000000)) (by decide)) (by rw [(by simpa using hrs.length:vs.size = xs.length)];exact hk1) (fun h' hl' hnd' hs'=>?_)
     refine hQ _ _ ⟨_,jSM (occ:=occ) (lv':=1) (t':=t'') iv (st.trans st2) hgi h1 e2 hs' hl' hnd' (by rw [Array.toList_setIfInBounds];exact hr') ?_ ?_ (ZE occ Z) h1 (.inr ⟨vBI _,(by simpa using hio:i ∉ occ),fun j d l e hj=>?_⟩) (fun q=>absurd q (by decide))⟩
     ·intro q
      rcases hsub a q with q | q
      ·exact hat q
      ·rcases tr a q with w | ⟨j,hj,w⟩ | w
       ·rw [za] at w;exact son w
       ·exact haj j (fun z=>(by simpa using hio:i ∉ occ) (z ▸ hj)) w
       ·obtain ⟨o',e'⟩:=w.1
        have e':=iv.bh a o' e'
        rw [(iv.own1 i _ lv hgi h1 a t e2).1] at e';exact nos e'
     ·intro b q
      rcases hsub b q with q | q
      ·exact .inl q
      ·exact .inr (tr b q)
     ·obtain ⟨_,_,_,z⟩:=jF e
      exact z hj
end
noncomputable abbrev kN:Option (R (List D)):=some (.ok [])
noncomputable abbrev kI (i:Int):Tj:=some (.ok (.int i,2))
noncomputable abbrev kS (s:List Nat):Tj:=some (.ok (.str s,2))
noncomputable def kE (Z:G):Option O:=some (.next Z)
def kQ (f g:Th) (Z:G):Option O:=v9 (f Z) g
def kC (f:Tj) (g:Option (R (List D))):Option (R (List D)):=JR f fun a=>JR g fun b=>some (.ok (a.1 :: b))
def kB (F:Td) (f g:Tj):Tj:=JR f fun a=>JR g fun b=>F [a.1,b.1]
def kT (F:Td) (f g:Tj):Option (R Bool):=JR f fun a=>JR g fun b=>JR (F [a.1,b.1]) fun d=>(Qp d.1).map .ok
def kV (f:Tj):Option (R Bool):=JR f fun a=>(Qp a.1).map .ok
def kM (f:Option (R Bool)):Option (R Bool):=JR f fun b=>some (.ok (!b))
def kO (f g:Option (R Bool)):Option (R Bool):=JR f fun b=>if b then some (.ok true) else g
def kD (f g:Option (R Bool)):Option (R Bool):=JR f fun b=>if b then g else some (.ok false)
def kU (F:Td) (f:Tj):Tj:=JR f fun a=>F [a.1]
def kL (lo hi:Option (R (Option Int))) (f:Tj):Tj:=JR f fun a=>JR lo fun x=>JR hi fun y=>jAK x y a.1
def kZ (lo hi:Option (R (Option Int))) (f:Tj):Tj:=JR f fun a=>JR lo fun x=>JR hi fun y=>kq x y a.1
def kP (F:Td) (f:Tj) (g:Option (R (List D))):Tj:=JR f fun a=>jUC F a.1 g
def kJ (f g:Tj):Tj:=JR f fun a=>qID a g
def kW (f g:Tj):Tj:=JR f fun a=>orF a g
def kX (f:Tj) (g:Option (R (List D))):Option (R (List D)):=JR f fun a=>qLC a g
def kH (F K:Td) (f g h:Tj):Tj:=JR f fun a=>JR g fun b=>JR (F [a.1,b.1]) fun d=>jGU d (JR h fun x=>JR (K [b.1,x.1]) qAE)
def kG (F K:Td) (f g h:Tj):Option (R Bool):=JR f fun a=>JR g fun b=>JR (F [a.1,b.1]) fun d=>JR ((Qp d.1).map .ok) fun t=>if t then JR h fun x=>JR (K [b.1,x.1]) fun y=>(Qp y.1).map .ok else some (.ok false)
def kR (Z:G) (f:Tj):Option O:=Yj f Z fun a=>some (.ret a.1 a.2)
def kA (occ:List Nat) (i:Nat) (Z:G) (f:Tj):Option O:=Yj f Z fun a=>some (.next (jGG occ i a Z))
def kY (Z:G) (f:Tj):Option O:=Yj f Z fun _=>some (.next Z)
def kF (Z:G) (x y:Th) (f:Option (R Bool)):Option O:=Yj f Z fun b=>if b then x Z else y Z
def kK {α β:Type} (F:α -> Option (R β)) (x:Option (R α)):Option (R β):=JR x F
theorem qJT {α β:Type} {F:α -> Option (R β)} {a:α}:kK F (some (.ok a)) = F a:=rfl
theorem qOM {α β:Type} {F:α -> Option (R β)} {k:Str}:kK F (some (.exc k)) = some (.exc k):=rfl
def bO (f:Th) (x:Option O):Option O:=v9 x f
theorem Za {f:Th}:bO f (some (.next Z)) = f Z:=rfl
theorem qET {f:Th}:bO f (some (.ret d lv)) = some (.ret d lv):=rfl
theorem qKY {f:Th}:bO f (some (.brk Z)) = some (.brk Z):=rfl
theorem qHN {f:Th}:bO f (some (.cont Z)) = some (.cont Z):=rfl
theorem qKX {k:Str} {f:Th}:bO f (some (.exc k Z)) = some (.exc k Z):=rfl
theorem qDL {k:Str} {f:Th}:bO f (some (.raise k)) = some (.raise k):=rfl
section
variable {K:Td} {f g:Tj} {a b x:D × Nat} {l:List D} {k:Str} {t:Bool} {u:Option (R Bool)} {X Y:Th} {p q:Option Int} {m:Option (R (List D))}
theorem qMU:kE Z = some (.next Z):=rfl
theorem jl:kQ X Y Z = bO Y (X Z):=rfl
theorem qJU:kC (some (.ok a)) (some (.ok l)) = some (.ok (a.1 :: l)):=rfl
theorem qOR:kC (some (.exc k)) m = some (.exc k):=rfl
theorem qGG:kB F (some (.ok a)) (some (.ok b)) = F [a.1,b.1]:=rfl
theorem qML:kT F (some (.ok a)) (some (.ok b)) = kV (F [a.1,b.1]):=rfl
theorem qMJ:kV (some (.ok a)) = (Qp a.1).map .ok:=rfl
theorem qMO:kM (some (.ok t)) = some (.ok (!t)):=rfl
theorem qMN:kO (some (.ok t)) u = if t then some (.ok true) else u:=rfl
theorem qMV:kD (some (.ok t)) u = if t then u else some (.ok false):=rfl
theorem qMK:kU F (some (.ok a)) = F [a.1]:=rfl
theorem qMP:kL (some (.ok p)) (some (.ok q)) (some (.ok a)) = jAK p q a.1:=rfl
theorem qMF:kZ (some (.ok p)) (some (.ok q)) (some (.ok a)) = kq p q a.1:=rfl
theorem qMM:kP F (some (.ok a)) m = jUC F a.1 m:=rfl
theorem qMQ:kJ (some (.ok a)) f = qID a f:=rfl
theorem qMI:kW (some (.ok a)) f = orF a f:=rfl
theorem qMH:kX (some (.ok a)) m = qLC a m:=rfl
theorem qMR:kH F K (some (.ok a)) (some (.ok b)) f = kK (fun d=>jGU d (kK (fun x=>kK qAE (K [b.1,x.1])) f)) (F [a.1,b.1]):=rfl
theorem qMS:kG F K (some (.ok a)) (some (.ok b)) f = kD (kV (F [a.1,b.1])) (kT K (some (.ok b)) f):=by
 show JR (F [a.1,b.1]) _ = JR (JR _ _) _
 cases F [a.1,b.1] with
 | none=>rfl
 | some r=>cases r <;> rfl
theorem qJS:kR Z (some (.ok a)) = some (.ret a.1 a.2):=rfl
theorem qOJ:kR Z (some (.exc k)) = some (.exc k Z):=rfl
theorem qJV:kA occ i Z (some (.ok a)) = some (.next (jGG occ i a Z)):=rfl
theorem qOS:kA occ i Z (some (.exc k)) = some (.exc k Z):=rfl
theorem qMG:kY Z (some (.ok a)) = some (.next Z):=rfl
theorem qOI:kY Z (some (.exc k)) = some (.exc k Z):=rfl
theorem qMT:kF Z X Y (some (.ok t)) = if t then X Z else Y Z:=rfl
theorem qON:kF Z X Y (some (.ok true)) = X Z:=rfl
theorem qOO:kF Z X Y (some (.ok false)) = Y Z:=rfl
theorem qOK:kO (some (.ok true)) u = some (.ok true):=rfl
theorem qOL:kO (some (.ok false)) u = u:=rfl
theorem qOP:kD (some (.ok true)) u = u:=rfl
theorem qOQ:kD (some (.ok false)) u = some (.ok false):=rfl
theorem bnT:(!true) = false:=rfl
theorem bnF:(!false) = true:=rfl
end
section
variable {n:Nat}
theorem dQ {st:Stmt} {rest:List Stmt} {f g:Th} (h1:jKM c hm n sc nm st f) (h2:kn c hm n sc nm rest g):kn c hm n sc nm (st :: rest) (kQ f g):=jUX h1 h2
theorem dE:kn c hm n sc nm [] kE:=jZS
end
abbrev Q7 (d:DefRec) (ps:List Str):Prop:=∀ pm code doc (vals:List Value),vals.length = ps.length -> bindArgs (Calls.docDef d.name d.params d.body d.scope pm code doc) ⟨vals,[]⟩ = pure (ps.zip vals)
abbrev jET (d:DefRec) (ps:List Str):Prop:=∀ q pm code doc (vals:List Value),vals.length = ps.length -> bindArgs (qCD q d pm code doc) ⟨vals,[]⟩ = pure (ps.zip vals)
namespace L14
set_option maxRecDepth 20000
set_option maxHeartbeats 4000000
def jf:Th:=fun Z=>kF Z (kQ (fun Z=>some (.raise "NoWidth")) (kE)) (kE) (kT ltF (JH 0 Z) (kI 1))
def jW:Th:=fun Z=>kQ (jf) (kE) Z
def Je:Td:=fnF 1 0 jW
theorem jEK:Q7 (JQ pW 13) ["width"]:=fun _ _ _ _ h=>by obtain ⟨v0,rfl⟩:=jLO h;rfl
theorem jJF (ok:c.Ok) (B:Bi c) (X:Xs c)  (hf:QZ c (JQ pW 13)):Fn c false 1 "need_width" (Je) :=
 Xd (ps:=["width"]) (nm:=["width"]) (f:=jW) 0 ok hf (dQ (JM (JJ qj (JB 0) (JC)) (dQ (J4 ok X) (dE)) (dE)) (dE)) jEK
def kx:Th:=fun Z=>kY Z (kK Je (kC (JH 1 Z) (kN)))
def Zj:Th:=fun Z=>kQ (fun Z=>kF Z (kQ (fun Z=>jTX 2 Z) (kE)) (kE) (kT gtF (kK YA (kC (kB JL (JH 0 Z) (JH 2 Z)) (kN))) (JH 1 Z))) (kE) Z
def ym:Th:=fun Z=>jLT [] 2 (fun Z=>kK jEU (kC (kK YA (kC (JH 0 Z) (kN))) (kN))) Zj Z
def yk:Th:=fun Z=>kR Z (some (.ok (.none,2)))
def qG:Th:=fun Z=>kQ (kx) (kQ (ym) (kQ (yk) (kE))) Z
def YF:Td:=fnF 2 1 qG
theorem jFR:Q7 (JQ pW 14) ["words","width"]:=fun _ _ _ _ h=>by obtain ⟨v0,v1,rfl⟩:=jFF h;rfl
theorem jMA (ok:c.Ok) (B:Bi c) (vAf:Fn c false 1 "need_width" Je) (hf:QZ c (JQ pW 14)):Fn c false 2 "long_word" (YF) :=
 Xd (ps:=["words","width"]) (nm:=["words","width","at"]) (f:=qG) 1 ok hf (dQ (jG (JO ok vAf (JA (JB 1) (JD)))) (dQ (Ye 2 (QW ok B.range_ (JA (Jc ok B.len Ji (JA (JB 0) (JD))) (JD))) (dQ (JM (JJ xp (Jc ok B.len Ji (JA (JG (JB 0) (JB 2)) (JD))) (JB 1)) (dQ (Qu 2) (dE)) (dE)) (dE))) (dQ (JE (Qt)) (dE)))) jFR
def xQ:Th:=fun Z=>kF Z (kQ (fun Z=>kR Z (some (.ok (.bool false,2)))) (kE)) (kE) (kM (kV (kK (jPI "list") (JH 1 Z))))
def jr:Tg:=fun Z=>kJ (kK (jPI "int") (JH 0 Z)) (kU qFT (kK (jPI "bool") (JH 0 Z)))
def xP:Th:=fun Z=>kF Z (kQ (fun Z=>kR Z (some (.ok (.bool false,2)))) (kE)) (kE) (kM (kV (kK qNK (kC (kK (jN jr (fun _=>some (.ok true)) [] Z) (kK itF (JH 1 Z))) (kN)))))
def Xv:Th:=fun Z=>kF Z (kQ (fun Z=>kR Z (kJ (kB eqF (JH 0 Z) (kK J3 (kN))) (kB eqF (JH 1 Z) (kK J3 (kN))))) (kE)) (kE) (kO (kT eqF (JH 0 Z) (kK J3 (kN))) (kO (kT eqF (JH 1 Z) (kK J3 (kN))) (some (.ok false))))
def ZF:Th:=fun Z=>kQ (fun Z=>kF Z (kQ (fun Z=>kR Z (some (.ok (.bool false,2)))) (kE)) (kE) (kT leF (kB JL (JH 1 Z) (JH 2 Z)) (kB JL (JH 1 Z) (kB jNL (JH 2 Z) (kI 1))))) (kE) Z
def xO:Th:=fun Z=>jLT [] 2 (fun Z=>kK jEU (kC (kI 1) (kC (kK YA (kC (JH 1 Z) (kN))) (kN)))) ZF Z
def jg:Th:=fun Z=>kR Z (kJ (kB eqF (kB JL (JH 1 Z) (kI 0)) (kI 0)) (kB ltF (kB JL (JH 1 Z) (kU jLI (kI 1))) (kK YA (kC (JH 0 Z) (kN)))))
def vH:Th:=fun Z=>kQ (xQ) (kQ (xP) (kQ (Xv) (kQ (xO) (kQ (jg) (kE))))) Z
def ZM:Td:=fnF 2 1 vH
theorem jEL:Q7 (JQ pW 16) ["words","starts"]:=fun _ _ _ _ h=>by obtain ⟨v0,v1,rfl⟩:=jFF h;rfl
theorem jJG (ok:c.Ok) (B:Bi c)  (hf:QZ c (JQ pW 16)):Fn c false 1 "are_starts" (ZM) :=
 Xd (ps:=["words","starts"]) (nm:=["words","starts","k"]) (f:=vH) 1 ok hf (dQ (JM (QY (QQ (qM ok B.isinstance B.list_ (JB 1)))) (dQ (JE (Jj)) (dE)) (dE)) (dQ (JM (QY (QQ (Jc ok B.all qJH (JA (Yc [] (zO (JB 1)) Yd (qN (qM ok B.isinstance B.int_ (JB 0)) (Yw (Yn jSI (qM ok B.isinstance B.bool_ (JB 0)))))) (JD))))) (dQ (JE (Jj)) (dE)) (dE)) (dQ (JM (QD (Js (JJ op_eq (JB 0) (JV (JD))) (Js (JJ op_eq (JB 1) (JV (JD))) (J5)))) (dQ (JE (qN (QN op_eq (JB 0) (JV (JD))) (Yw (QN op_eq (JB 1) (JV (JD)))))) (dE)) (dE)) (dQ (Ye 2 (QW ok B.range_ (JA (JC) (JA (Jc ok B.len Ji (JA (JB 1) (JD))) (JD)))) (dQ (JM (JJ qBS (JG (JB 1) (JB 2)) (JG (JB 1) (JF jS (JB 2) (JC)))) (dQ (JE (Jj)) (dE)) (dE)) (dE))) (dQ (JE (qN (QN op_eq (JG (JB 1) (JC)) (JC)) (Yw (QN qj (JG (JB 1) (Yn jT (JC))) (Jc ok B.len Ji (JA (JB 0) (JD))))))) (dE)))))) jEL
def Zy:Th:=fun Z=>kF Z (kQ (fun Z=>some (.raise "NoStarts")) (kE)) (kE) (kM (kV (kK ZM (kC (JH 0 Z) (kC (JH 1 Z) (kN))))))
def qF:Th:=fun Z=>kQ (Zy) (kE) Z
def Yk:Td:=fnF 2 0 qF
theorem jBP:Q7 (JQ pW 17) ["words","starts"]:=fun _ _ _ _ h=>by obtain ⟨v0,v1,rfl⟩:=jFF h;rfl
theorem jFH (ok:c.Ok) (B:Bi c) (X:Xs c) (vAY:Fn c false 1 "are_starts" ZM) (hf:QZ c (JQ pW 17)):Fn c false 2 "need_starts" (Yk) :=
 Xd (ps:=["words","starts"]) (nm:=["words","starts"]) (f:=qF) 0 ok hf (dQ (JM (QY (QQ (JO ok vAY (JA (JB 0) (JA (JB 1) (JD)))))) (dQ (J4 ok X) (dE)) (dE)) (dE)) jBP
def Y6:Th:=fun Z=>kF Z (kQ (fun Z=>some (.raise "LongWord")) (kE)) (kE) (kT qJW (kK YF (kC (JH 0 Z) (kC (JH 1 Z) (kN)))) (some (.ok (.none,2))))
def ZJ:Th:=fun Z=>kQ (Y6) (kE) Z
def Jt:Td:=fnF 2 0 ZJ
theorem jEJ:Q7 (JQ pW 18) ["words","width"]:=fun _ _ _ _ h=>by obtain ⟨v0,v1,rfl⟩:=jFF h;rfl
theorem jJE (ok:c.Ok) (B:Bi c) (X:Xs c) (vAd:Fn c false 2 "long_word" YF) (hf:QZ c (JQ pW 18)):Fn c false 3 "need_words" (Jt) :=
 Xd (ps:=["words","width"]) (nm:=["words","width"]) (f:=ZJ) 0 ok hf (dQ (JM (JJ qEG (JO ok vAd (JA (JB 0) (JA (JB 1) (JD)))) (Qt)) (dQ (J4 ok X) (dE)) (dE)) (dE)) jEJ
def yq:Th:=fun Z=>kA [1,0] 2 Z (kB YC (kL (kK Xx (kI 1)) (some (.ok none)) (JH 1 Z)) (kK J3 (kC (kK YA (kC (JH 0 Z) (kN))) (kN))))
def qL:Tg:=fun Z=>kK yW (kC (kB JL (JH 1 Z) (JH 0 Z)) (kC (kB JL (JH 2 Z) (JH 0 Z)) (kN)))
def yp:Th:=fun Z=>kR Z (kK (jN qL (fun _=>some (.ok true)) [1,2] Z) (kK jEU (kC (kK YA (kC (JH 1 Z) (kN))) (kN))))
def yP:Th:=fun Z=>kQ (yq) (kQ (yp) (kE)) Z
def jL:Td:=fnF 2 1 yP
theorem jFT:Q7 (JQ pW 19) ["words","starts"]:=fun _ _ _ _ h=>by obtain ⟨v0,v1,rfl⟩:=jFF h;rfl
theorem jMD (ok:c.Ok) (B:Bi c)  (hf:QZ c (JQ pW 19)):Fn c false 1 "bounds_of" (jL) :=
 Xd (ps:=["words","starts"]) (nm:=["words","starts","ends"]) (f:=yP) 1 ok hf (dQ (JI 2 (JF Ja (QV (JB 1) (J0 (JC)) QX) (JV (JA (Jc ok B.len Ji (JA (JB 0) (JD))) (JD))))) (dQ (JE (Yc [1,2] (QW ok B.range_ (JA (Jc ok B.len Ji (JA (JB 1) (JD))) (JD))) Yd (QF (JA (JG (JB 1) (JB 0)) (JA (JG (JB 2) (JB 0)) (JD)))))) (dE))) jFT
def qu:Th:=fun Z=>kY Z (kK Yk (kC (JH 0 Z) (kC (JH 1 Z) (kN))))
def vL:Tg:=fun Z=>kP jPE (kS [32]) (kC (kL (kK Xx (kB JL (JH 0 Z) (kI 0))) (kK Xx (kB JL (JH 0 Z) (kI 1))) (JH 1 Z)) (kN))
def jAO:Th:=fun Z=>kR Z (kK (jN vL (fun _=>some (.ok true)) [0] Z) (kK itF (kK jL (kC (JH 0 Z) (kC (JH 1 Z) (kN))))))
def zz:Th:=fun Z=>kQ (qu) (kQ (jAO) (kE)) Z
def kj:Td:=fnF 2 0 zz
theorem jKB:Q7 (JQ pW 20) ["words","starts"]:=fun _ _ _ _ h=>by obtain ⟨v0,v1,rfl⟩:=jFF h;rfl
theorem jPP (ok:c.Ok) (B:Bi c) (vAa:Fn c false 2 "bounds_of" jL) (vAe:Fn c false 2 "need_starts" Yk) (hf:QZ c (JQ pW 20)):Fn c false 3 "lines_of" (kj) :=
 Xd (ps:=["words","starts"]) (nm:=["words","starts"]) (f:=zz) 0 ok hf (dQ (jG (JO ok vAe (JA (JB 0) (JA (JB 1) (JD))))) (dQ (JE (Yc [0] (zO (JO ok vAa (JA (JB 0) (JA (JB 1) (JD))))) Yd (jJU (JT) (JA (QV (JB 1) (J0 (JG (JB 0) (JC))) (J0 (JG (JB 0) (JC)))) (JD))))) (dE))) jKB
def yj:Th:=fun Z=>kA [] 4 Z (kK J3 (kN))
def yh:Th:=fun Z=>kA [] 5 Z (kU jLI (kI 1))
def qR:Tg:=fun Z=>kK yW (kC (JH 6 Z) (kC (kI 0) (kN)))
def qQ:Tg:=fun Z=>kK yW (kC (JH 6 Z) (kC (kB YC (kB jBG (kB jNL (JH 1 Z) (JH 5 Z)) (kB jNL (JH 1 Z) (JH 5 Z))) (kB JL (JH 2 Z) (JH 6 Z))) (kN)))
def Qv:Th:=fun Z=>kQ (fun Z=>kA [5,0,6] 5 Z (kB YC (kB YC (JH 5 Z) (kI 1)) (kK YA (kC (kB JL (JH 0 Z) (kB jNL (JH 6 Z) (kI 1))) (kN))))) (kQ (fun Z=>kF Z (kQ (fun Z=>some (.brk Z)) (kE)) (kE) (kT gtF (JH 5 Z) (JH 1 Z))) (kQ (fun Z=>kF Z (kQ (fun Z=>qHO [6] 4 qR Z) (kE)) (kQ (fun Z=>qHO [6,1,5,1,5,2,6] 4 qQ Z) (kE)) (kT eqF (JH 6 Z) (kK YA (kC (JH 0 Z) (kN))))) (kE))) Z
def yg:Th:=fun Z=>jLT [] 6 (fun Z=>kK jEU (kC (kB YC (JH 3 Z) (kI 1)) (kC (kB YC (kK YA (kC (JH 0 Z) (kN))) (kI 1)) (kN)))) Qv Z
def yf:Th:=fun Z=>jTX 4 Z
def yB:Th:=fun Z=>kQ (yj) (kQ (yh) (kQ (yg) (kQ (yf) (kE)))) Z
def YE:Td:=fnF 4 3 yB
theorem jFQ:Q7 (JQ pW 22) ["words","width","table","at"]:=fun _ _ _ _ h=>by obtain ⟨v0,v1,v2,v3,rfl⟩:=qGC h;rfl
theorem jLZ (ok:c.Ok) (B:Bi c)  (hf:QZ c (JQ pW 22)):Fn c false 1 "sums_from" (YE) :=
 Xd (ps:=["words","width","table","at"]) (nm:=["words","width","table","at","found","size","end"]) (f:=yB) 3 ok hf (dQ (JI 4 (JV (JD))) (dQ (JI 5 (Yn jT (JC))) (dQ (Ye 6 (QW ok B.range_ (JA (JF Ja (JB 3) (JC)) (JA (JF Ja (Jc ok B.len Ji (JA (JB 0) (JD))) (JC)) (JD)))) (dQ (JI 5 (JF Ja (JF Ja (JB 5) (JC)) (Jc ok B.len Ji (JA (JG (JB 0) (JF jS (JB 6) (JC))) (JD))))) (dQ (JM (JJ xp (JB 5) (JB 1)) (dQ (z0) (dE)) (dE)) (dQ (JM (JJ op_eq (JB 6) (Jc ok B.len Ji (JA (JB 0) (JD)))) (dQ (qP 4 (QF (JA (JB 6) (JA (JC) (JD))))) (dE)) (dQ (qP 4 (QF (JA (JB 6) (JA (JF Ja (JF Z5 (JF jS (JB 1) (JB 5)) (JF jS (JB 1) (JB 5))) (JG (JB 2) (JB 6))) (JD))))) (dE))) (dE))))) (dQ (Qu 4) (dE))))) jFQ
def jAN:Th:=fun Z=>kY Z (kK Jt (kC (JH 0 Z) (kC (JH 1 Z) (kN))))
def vK:Tg:=fun Z=>kI 0
def jAM:Th:=fun Z=>kA [] 2 Z (kK (jN vK (fun _=>some (.ok true)) [] Z) (kK jEU (kC (kB YC (kK YA (kC (JH 0 Z) (kN))) (kI 1)) (kN))))
def vJ:Tg:=fun Z=>kB JL (JH 0 Z) (kI 1)
def vQ:Tg:=fun Z=>kK qME (kC (kK (jN vJ (fun _=>some (.ok true)) [] Z) (kK itF (kK YE (kC (JH 0 Z) (kC (JH 1 Z) (kC (JH 2 Z) (kC (JH 3 Z) (kN)))))))) (kN))
def vP:Th:=fun Z=>kQ (fun Z=>qLE [0,1,2,3] 2 vQ (fun Z=>JH 3 Z) Z) (kE) Z
def qs:Th:=fun Z=>jLT [] 3 (fun Z=>kK jEU (kC (kB jNL (kK YA (kC (JH 0 Z) (kN))) (kI 1)) (kC (kU jLI (kI 1)) (kC (kU jLI (kI 1)) (kN))))) vP Z
def jAL:Th:=fun Z=>jTX 2 Z
def zy:Th:=fun Z=>kQ (jAN) (kQ (jAM) (kQ (qs) (kQ (jAL) (kE)))) Z
def Yx:Td:=fnF 2 2 zy
theorem jKA:Q7 (JQ pW 23) ["words","width"]:=fun _ _ _ _ h=>by obtain ⟨v0,v1,rfl⟩:=jFF h;rfl
theorem jPO (ok:c.Ok) (B:Bi c) (vAg:Fn c false 3 "need_words" Jt) (vAh:Fn c false 3 "sums_from" YE) (hf:QZ c (JQ pW 23)):Fn c false 4 "table_of" (Yx) :=
 Xd (ps:=["words","width"]) (nm:=["words","width","table","at"]) (f:=zy) 2 ok hf (dQ (jG (JO ok vAg (JA (JB 0) (JA (JB 1) (JD))))) (dQ (jMJ 2 [] (QW ok B.range_ (JA (JF Ja (Jc ok B.len Ji (JA (JB 0) (JD))) (JC)) (JD))) Yd (JC)) (dQ (Ye 3 (QW ok B.range_ (JA (JF jS (Jc ok B.len Ji (JA (JB 0) (JD))) (JC)) (JA (Yn jT (JC)) (JA (Yn jT (JC)) (JD))))) (dQ (jMI 2 (Jc ok B.min qJE (JA (Yc [] (zO (JO ok vAh (JA (JB 0) (JA (JB 1) (JA (JB 2) (JA (JB 3) (JD))))))) Yd (JG (JB 0) (JC))) (JD))) (JB 3)) (dE))) (dQ (Qu 2) (dE))))) jKA
def qz:Th:=fun Z=>kA [0,1] 2 Z (kK Yx (kC (JH 0 Z) (kC (JH 1 Z) (kN))))
def qy:Th:=fun Z=>kA [] 3 Z (kK J3 (kN))
def qx:Th:=fun Z=>kA [] 4 Z (kI 0)
def YZ:Tg:=fun Z=>kB JL (JH 0 Z) (kI 0)
def Yi:G -> Option (R Bool):=fun Z=>kT eqF (kB JL (JH 0 Z) (kI 1)) (kB JL (JH 1 Z) (JH 2 Z))
def Qh:G -> Option (R Bool):=fun Z=>kT ltF (JH 4 Z) (kK YA (kC (JH 0 Z) (kN)))
def XV:Th:=fun Z=>kQ (fun Z=>qHO [4] 3 (fun Z=>JH 4 Z) Z) (kQ (fun Z=>kA [0,1,2,4,2,4] 4 Z (kK qJN (kC (kK (jN YZ Yi [2,4] Z) (kK itF (kK YE (kC (JH 0 Z) (kC (JH 1 Z) (kC (JH 2 Z) (kC (JH 4 Z) (kN)))))))) (kN)))) (kE)) Z
def qw:Th:=fun Z=>Zp Qh XV 100000 Z
def qv:Th:=fun Z=>jTX 3 Z
def qH:Th:=fun Z=>kQ (qz) (kQ (qy) (kQ (qx) (kQ (qw) (kQ (qv) (kE))))) Z
def Yl:Td:=fnF 2 3 qH
theorem jBQ:Q7 (JQ pW 24) ["words","width"]:=fun _ _ _ _ h=>by obtain ⟨v0,v1,rfl⟩:=jFF h;rfl
theorem jFI (ok:c.Ok) (B:Bi c) (vAh:Fn c false 4 "sums_from" YE) (vAi:Fn c false 4 "table_of" Yx) (hf:QZ c (JQ pW 24)):Fn c false 5 "best_starts" (Yl) :=
 Xd (ps:=["words","width"]) (nm:=["words","width","table","found","at"]) (f:=qH) 3 ok hf (dQ (JI 2 (JO ok vAi (JA (JB 0) (JA (JB 1) (JD))))) (dQ (JI 3 (JV (JD))) (dQ (JI 4 (JC)) (dQ (jGT 100000 (JJ qj (JB 4) (Jc ok B.len Ji (JA (JB 0) (JD)))) (dQ (qP 3 (JB 4)) (dQ (JI 4 (Jc ok B.max qEF (JA (Yc [2,4] (zO (JO ok vAh (JA (JB 0) (JA (JB 1) (JA (JB 2) (JA (JB 4) (JD))))))) (qDE (JJ op_eq (JG (JB 0) (JC)) (JG (JB 1) (JB 2)))) (JG (JB 0) (JC))) (JD)))) (dE)))) (dQ (Qu 3) (dE)))))) jBQ
def jCY:Th:=fun Z=>kR Z (kJ (kB neF (JH 0 Z) (kS [])) (kJ (kB qLG (kS [32]) (JH 0 Z)) (kB qLG (kS [10]) (JH 0 Z))))
def zK:Th:=fun Z=>kQ (jCY) (kE) Z
def jK:Td:=fnF 1 0 zK
theorem jMW:Q7 (JQ pW 26) ["text"]:=fun _ _ _ _ h=>by obtain ⟨v0,rfl⟩:=jLO h;rfl
theorem jUS (ok:c.Ok) (B:Bi c)  (hf:QZ c (JQ pW 26)):Fn c false 1 "is_word" (jK) :=
 Xd (ps:=["text"]) (nm:=["text"]) (f:=zK) 0 ok hf (dQ (JE (qN (QN jDG (JB 0) (JT)) (qN (QN qEE (JT) (JB 0)) (Yw (QN qEE (JT) (JB 0)))))) (dE)) jMW
def ZV:Th:=fun Z=>kF Z (kQ (fun Z=>kR Z (kB JL (JH 0 Z) (JH 1 Z))) (kE)) (kE) (kT ltF (JH 1 Z) (kK YA (kC (JH 0 Z) (kN))))
def qc:Th:=fun Z=>kR Z (kI 0)
def XF:Th:=fun Z=>kQ (ZV) (kQ (qc) (kE)) Z
def JY:Td:=fnF 2 0 XF
theorem jAE:Q7 (JQ pW 31) ["_law_script","_law_k"]:=fun _ _ _ _ h=>by obtain ⟨v0,v1,rfl⟩:=jFF h;rfl
theorem jDX (ok:c.Ok) (B:Bi c)  (hf:QZ c (JQ pW 31)):Fn c false 1 "_law_cell_at" (JY) :=
 Xd (ps:=["_law_script","_law_k"]) (nm:=["_law_script","_law_k"]) (f:=XF) 0 ok hf (dQ (JM (JJ qj (JB 1) (Jc ok B.len Ji (JA (JB 0) (JD)))) (dQ (JE (JG (JB 0) (JB 1))) (dE)) (dE)) (dQ (JE (JC)) (dE))) jAE
def qX:Th:=fun Z=>kA [] 1 Z (kS [33,34,35,36,38,39,40,41,42,43,44,45,46,47,48,49,50,51,52,53,54,55,56,57,58,59,60,61,62,63,64,65,66,67,68,69,70,71,72,73,74,75,76,77,78,79,80,81,82,83,84,85,86,87,88,89,90,91,92,93,94,95,96])
def qW:Th:=fun Z=>kA [1] 1 Z (kB YC (JH 1 Z) (kS [97,98,99,100,101,102,103,104,105,106,107,108,109,110,111,112,113,114,115,116,117,118,119,120,121,122,123,124,125,126]))
def qV:Th:=fun Z=>kR Z (kB JL (JH 1 Z) (kB jM (JH 0 Z) (kI 93)))
def ZD:Th:=fun Z=>kQ (qX) (kQ (qW) (kQ (qV) (kE))) Z
def QH:Td:=fnF 1 1 ZD
theorem jAB:Q7 (JQ pW 32) ["_law_cell"]:=fun _ _ _ _ h=>by obtain ⟨v0,rfl⟩:=jLO h;rfl
theorem jDT (ok:c.Ok) (B:Bi c)  (hf:QZ c (JQ pW 32)):Fn c false 1 "_law_sign_by" (QH) :=
 Xd (ps:=["_law_cell"]) (nm:=["_law_cell","_law_some"]) (f:=ZD) 1 ok hf (dQ (JI 1 (JT)) (dQ (JI 1 (JF Ja (JB 1) (JT))) (dQ (JE (JG (JB 1) (JF Ju (JB 0) (JC)))) (dE)))) jAB
def Qz:Th:=fun Z=>kA [0] 1 Z (kB YC (kI 1) (kB jM (JH 0 Z) (kI 7)))
def QS:Th:=fun Z=>kF Z (kQ (fun Z=>kA [0] 1 Z (kB YC (kI 1) (kB jM (kB zi (JH 0 Z) (kI 63)) (kI 40)))) (kE)) (kE) (kT eqF (kB jM (kB zi (JH 0 Z) (kI 7)) (kI 9)) (kI 1))
def Qy:Th:=fun Z=>kF Z (kQ (fun Z=>kA [0] 1 Z (kB YC (kI 1) (kB jM (kB zi (JH 0 Z) (kI 567)) (kI 300)))) (kE)) (kE) (kT eqF (kB jM (kB zi (JH 0 Z) (kI 7)) (kI 81)) (kI 2))
def ZY:Tg:=fun Z=>kK QH (kC (kB YC (kB zi (JH 1 Z) (kI 3)) (kB jBG (JH 0 Z) (kB YC (kI 1) (kB jM (JH 1 Z) (kI 5))))) (kN))
def ZQ:Th:=fun Z=>kR Z (kP jPE (kS []) (kC (kK (jN ZY (fun _=>some (.ok true)) [0] Z) (kK jEU (kC (JH 1 Z) (kN)))) (kN)))
def jm:Th:=fun Z=>kQ (Qz) (kQ (QS) (kQ (Qy) (kQ (ZQ) (kE)))) Z
def Xy:Td:=fnF 1 1 jm
theorem jAA:Q7 (JQ pW 33) ["_law_cell"]:=fun _ _ _ _ h=>by obtain ⟨v0,rfl⟩:=jLO h;rfl
theorem jDS (ok:c.Ok) (B:Bi c) (vAQ:Fn c false 1 "_law_sign_by" QH) (hf:QZ c (JQ pW 33)):Fn c false 2 "_law_word_by" (Xy) :=
 Xd (ps:=["_law_cell"]) (nm:=["_law_cell","_law_size"]) (f:=jm) 1 ok hf (dQ (JI 1 (JF Ja (JC) (JF Ju (JB 0) (JC)))) (dQ (JM (JJ op_eq (JF Ju (JF XR (JB 0) (JC)) (JC)) (JC)) (dQ (JI 1 (JF Ja (JC) (JF Ju (JF XR (JB 0) (JC)) (JC)))) (dE)) (dE)) (dQ (JM (JJ op_eq (JF Ju (JF XR (JB 0) (JC)) (JC)) (JC)) (dQ (JI 1 (JF Ja (JC) (JF Ju (JF XR (JB 0) (JC)) (JC)))) (dE)) (dE)) (dQ (JE (jJU (JT) (JA (Yc [0] (QW ok B.range_ (JA (JB 1) (JD))) Yd (JO ok vAQ (JA (JF Ja (JF XR (JB 1) (JC)) (JF Z5 (JB 0) (JF Ja (JC) (JF Ju (JB 1) (JC))))) (JD)))) (JD)))) (dE))))) jAA
def jEY:Th:=fun Z=>kR Z (kJ (kK (jPI "int") (JH 0 Z)) (kU qFT (kK (jPI "bool") (JH 0 Z))))
def jAW:Th:=fun Z=>kQ (jEY) (kE) Z
def Qr:Td:=fnF 1 0 jAW
theorem jEM:Q7 (JQ pW 34) ["_law_found"]:=fun _ _ _ _ h=>by obtain ⟨v0,rfl⟩:=jLO h;rfl
theorem jJH (ok:c.Ok) (B:Bi c)  (hf:QZ c (JQ pW 34)):Fn c false 1 "_law_whole" (Qr) :=
 Xd (ps:=["_law_found"]) (nm:=["_law_found"]) (f:=jAW) 0 ok hf (dQ (JE (qN (qM ok B.isinstance B.int_ (JB 0)) (Yw (Yn jSI (qM ok B.isinstance B.bool_ (JB 0)))))) (dE)) jEM
def vA:Th:=fun Z=>kF Z (kQ (fun Z=>kR Z (some (.ok (.bool false,2)))) (kE)) (kE) (kM (kV (kK (jPI "list") (JH 0 Z))))
def jI:Th:=fun Z=>kQ (fun Z=>kF Z (kQ (fun Z=>kR Z (some (.ok (.bool false,2)))) (kE)) (kE) (kM (kV (kK Qr (kC (JH 1 Z) (kN)))))) (kE) Z
def q9:Th:=fun Z=>jLT [0] 1 (fun Z=>kK itF (JH 0 Z)) jI Z
def q0:Th:=fun Z=>kR Z (some (.ok (.bool true,2)))
def qI:Th:=fun Z=>kQ (vA) (kQ (q9) (kQ (q0) (kE))) Z
def Qw:Td:=fnF 1 1 qI
theorem jBR:Q7 (JQ pW 35) ["_law_found"]:=fun _ _ _ _ h=>by obtain ⟨v0,rfl⟩:=jLO h;rfl
theorem jFJ (ok:c.Ok) (B:Bi c) (vAV:Fn c false 1 "_law_whole" Qr) (hf:QZ c (JQ pW 35)):Fn c false 2 "_law_wholes" (Qw) :=
 Xd (ps:=["_law_found"]) (nm:=["_law_found","_law_one"]) (f:=qI) 1 ok hf (dQ (JM (QY (QQ (qM ok B.isinstance B.list_ (JB 0)))) (dQ (JE (Jj)) (dE)) (dE)) (dQ (Ye 1 (zO (JB 0)) (dQ (JM (QY (QQ (JO ok vAV (JA (JB 1) (JD))))) (dQ (JE (Jj)) (dE)) (dE)) (dE))) (dQ (JE (Jj)) (dE)))) jBR
def xT:Th:=fun Z=>kF Z (kQ (fun Z=>kR Z (some (.ok (.bool false,2)))) (kE)) (kE) (kO (kM (kV (kK (jPI "list") (JH 0 Z)))) (kO (kT neF (kK YA (kC (JH 0 Z) (kN))) (kK YA (kC (JH 1 Z) (kN)))) (some (.ok false))))
def jt:Th:=fun Z=>kQ (fun Z=>kF Z (kQ (fun Z=>kR Z (some (.ok (.bool false,2)))) (kE)) (kE) (kO (kM (kV (kK (jPI "str") (kB JL (JH 0 Z) (JH 2 Z))))) (kO (kT neF (kB JL (JH 0 Z) (JH 2 Z)) (kB JL (JH 1 Z) (JH 2 Z))) (some (.ok false))))) (kE) Z
def xS:Th:=fun Z=>jLT [] 2 (fun Z=>kK jEU (kC (kK YA (kC (JH 1 Z) (kN))) (kN))) jt Z
def xR:Th:=fun Z=>kR Z (some (.ok (.bool true,2)))
def vI:Th:=fun Z=>kQ (xT) (kQ (xS) (kQ (xR) (kE))) Z
def XY:Td:=fnF 2 1 vI
theorem jEN:Q7 (JQ pW 36) ["_law_found","_law_due_here"]:=fun _ _ _ _ h=>by obtain ⟨v0,v1,rfl⟩:=jFF h;rfl
theorem jJI (ok:c.Ok) (B:Bi c)  (hf:QZ c (JQ pW 36)):Fn c false 1 "_law_texts" (XY) :=
 Xd (ps:=["_law_found","_law_due_here"]) (nm:=["_law_found","_law_due_here","_law_k"]) (f:=vI) 1 ok hf (dQ (JM (QD (Js (QY (QQ (qM ok B.isinstance B.list_ (JB 0)))) (Js (JJ jDG (Jc ok B.len Ji (JA (JB 0) (JD))) (Jc ok B.len Ji (JA (JB 1) (JD)))) (J5)))) (dQ (JE (Jj)) (dE)) (dE)) (dQ (Ye 2 (QW ok B.range_ (JA (Jc ok B.len Ji (JA (JB 1) (JD))) (JD))) (dQ (JM (QD (Js (QY (QQ (qM ok B.isinstance B.str_ (JG (JB 0) (JB 2))))) (Js (JJ jDG (JG (JB 0) (JB 2)) (JG (JB 1) (JB 2))) (J5)))) (dQ (JE (Jj)) (dE)) (dE)) (dE))) (dQ (JE (Jj)) (dE)))) jEN
def qb:Th:=fun Z=>kA [] 1 Z (kI 0)
def ZZ:Th:=fun Z=>kQ (fun Z=>kA [1,2] 1 Z (kK qJN (kC (JH 1 Z) (kC (kK YA (kC (JH 2 Z) (kN))) (kN))))) (kE) Z
def ZR:Th:=fun Z=>jLT [0] 2 (fun Z=>kK itF (JH 0 Z)) ZZ Z
def qZ:Th:=fun Z=>jTX 1 Z
def jo:Th:=fun Z=>kQ (qb) (kQ (ZR) (kQ (qZ) (kE))) Z
def X0:Td:=fnF 1 2 jo
theorem jAC:Q7 (JQ pW 37) ["_law_row"]:=fun _ _ _ _ h=>by obtain ⟨v0,rfl⟩:=jLO h;rfl
theorem jDV (ok:c.Ok) (B:Bi c)  (hf:QZ c (JQ pW 37)):Fn c false 1 "_law_longest" (X0) :=
 Xd (ps:=["_law_row"]) (nm:=["_law_row","_law_most","_law_word"]) (f:=jo) 2 ok hf (dQ (JI 1 (JC)) (dQ (Ye 2 (zO (JB 0)) (dQ (JI 1 (Jc ok B.max qEF (JA (JB 1) (JA (Jc ok B.len Ji (JA (JB 2) (JD))) (JD))))) (dE))) (dQ (Qu 1) (dE)))) jAC
def Zd:Th:=fun Z=>kF Z (kQ (fun Z=>kR Z (some (.ok (.bool false,2)))) (kE)) (kE) (kO (kM (kV (kK Qw (kC (JH 2 Z) (kN))))) (kO (kT neF (kK YA (kC (JH 2 Z) (kN))) (kB YC (kK YA (kC (JH 0 Z) (kN))) (kI 1))) (kO (kT neF (kB JL (JH 2 Z) (kU jLI (kI 1))) (kI 0)) (some (.ok false)))))
def Jo:Th:=fun Z=>kQ (fun Z=>kA [4,0,6] 4 Z (kB YC (kB YC (JH 4 Z) (kI 1)) (kK YA (kC (kB JL (JH 0 Z) (kB jNL (JH 6 Z) (kI 1))) (kN))))) (kQ (fun Z=>kF Z (kQ (fun Z=>some (.brk Z)) (kE)) (kE) (kT gtF (JH 4 Z) (JH 1 Z))) (kQ (fun Z=>kA [2,6,1,4,6,0] 7 Z (kB YC (kB JL (JH 2 Z) (JH 6 Z)) (kB jBG (kB jOU (kB jNL (JH 1 Z) (JH 4 Z)) (kI 2)) (kK jUP (kC (kB ltF (JH 6 Z) (kK YA (kC (JH 0 Z) (kN)))) (kN)))))) (kQ (fun Z=>kF Z (kQ (fun Z=>kR Z (some (.ok (.bool false,2)))) (kE)) (kE) (kT gtF (kB JL (JH 2 Z) (JH 3 Z)) (JH 7 Z))) (kQ (fun Z=>kA [5,2,3,7] 5 Z (kW (JH 5 Z) (kB eqF (kB JL (JH 2 Z) (JH 3 Z)) (JH 7 Z)))) (kE))))) Z
def Xl:G -> Option (R (List D)):=fun Z=>kK jEU (kC (kB YC (JH 3 Z) (kI 1)) (kC (kB YC (kK YA (kC (JH 0 Z) (kN))) (kI 1)) (kN)))
def Qf:Th:=fun Z=>kQ (fun Z=>kA [] 4 Z (kU jLI (kI 1))) (kQ (fun Z=>kA [] 5 Z (some (.ok (.bool false,2)))) (kQ (fun Z=>jLT [] 6 Xl Jo Z) (kQ (fun Z=>kF Z (kQ (fun Z=>kR Z (some (.ok (.bool false,2)))) (kE)) (kE) (kM (kV (JH 5 Z)))) (kE)))) Z
def Xj:Th:=fun Z=>jLT [] 3 (fun Z=>kK jEU (kC (kK YA (kC (JH 0 Z) (kN))) (kN))) Qf Z
def Zc:Th:=fun Z=>kR Z (some (.ok (.bool true,2)))
def YX:Th:=fun Z=>kQ (Zd) (kQ (Xj) (kQ (Zc) (kE))) Z
def Qa:Td:=fnF 3 5 YX
theorem vO:Q7 (JQ pW 38) ["_law_row","_law_width","_law_found"]:=fun _ _ _ _ h=>by obtain ⟨v0,v1,v2,rfl⟩:=qHY h;rfl
theorem xw (ok:c.Ok) (B:Bi c) (vAW:Fn c false 2 "_law_wholes" Qw) (hf:QZ c (JQ pW 38)):Fn c false 3 "_law_table_right" (Qa) :=
 Xd (ps:=["_law_row","_law_width","_law_found"]) (nm:=["_law_row","_law_width","_law_found","_law_at","_law_size","_law_met","_law_end","_law_price"]) (f:=YX) 5 ok hf (dQ (JM (QD (Js (QY (QQ (JO ok vAW (JA (JB 2) (JD))))) (Js (JJ jDG (Jc ok B.len Ji (JA (JB 2) (JD))) (JF Ja (Jc ok B.len Ji (JA (JB 0) (JD))) (JC))) (Js (JJ jDG (JG (JB 2) (Yn jT (JC))) (JC)) (J5))))) (dQ (JE (Jj)) (dE)) (dE)) (dQ (Ye 3 (QW ok B.range_ (JA (Jc ok B.len Ji (JA (JB 0) (JD))) (JD))) (dQ (JI 4 (Yn jT (JC))) (dQ (JI 5 (Jj)) (dQ (Ye 6 (QW ok B.range_ (JA (JF Ja (JB 3) (JC)) (JA (JF Ja (Jc ok B.len Ji (JA (JB 0) (JD))) (JC)) (JD)))) (dQ (JI 4 (JF Ja (JF Ja (JB 4) (JC)) (Jc ok B.len Ji (JA (JG (JB 0) (JF jS (JB 6) (JC))) (JD))))) (dQ (JM (JJ xp (JB 4) (JB 1)) (dQ (z0) (dE)) (dE)) (dQ (JI 7 (JF Ja (JG (JB 2) (JB 6)) (JF Z5 (JF jAQ (JF jS (JB 1) (JB 4)) (JC)) (Ze ok B.int_ vC (JA (QN qj (JB 6) (Jc ok B.len Ji (JA (JB 0) (JD)))) (JD)))))) (dQ (JM (JJ xp (JG (JB 2) (JB 3)) (JB 7)) (dQ (JE (Jj)) (dE)) (dE)) (dQ (JI 5 (jMH (JB 5) (Yw (QN op_eq (JG (JB 2) (JB 3)) (JB 7))))) (dE))))))) (dQ (JM (QY (QQ (JB 5))) (dQ (JE (Jj)) (dE)) (dE)) (dE)))))) (dQ (JE (Jj)) (dE)))) vO
def YJ:Th:=fun Z=>kA [] 3 Z (kK J3 (kN))
def YI:Th:=fun Z=>kA [] 4 Z (kI 0)
def Jb:Th:=fun Z=>kQ (fun Z=>kA [5,0,7] 5 Z (kB YC (kB YC (JH 5 Z) (kI 1)) (kK YA (kC (kB JL (JH 0 Z) (kB jNL (JH 7 Z) (kI 1))) (kN))))) (kQ (fun Z=>kF Z (kQ (fun Z=>some (.brk Z)) (kE)) (kE) (kT gtF (JH 5 Z) (JH 1 Z))) (kQ (fun Z=>kF Z (kQ (fun Z=>kA [7] 6 Z (JH 7 Z)) (kE)) (kE) (kT eqF (kB JL (JH 2 Z) (JH 4 Z)) (kB YC (kB JL (JH 2 Z) (JH 7 Z)) (kB jBG (kB jOU (kB jNL (JH 1 Z) (JH 5 Z)) (kI 2)) (kK jUP (kC (kB ltF (JH 7 Z) (kK YA (kC (JH 0 Z) (kN)))) (kN))))))) (kE))) Z
def Qm:G -> Option (R (List D)):=fun Z=>kK jEU (kC (kB YC (JH 4 Z) (kI 1)) (kC (kB YC (kK YA (kC (JH 0 Z) (kN))) (kI 1)) (kN)))
def Jh:G -> Option (R Bool):=fun Z=>kT ltF (JH 4 Z) (kK YA (kC (JH 0 Z) (kN)))
def QA:Th:=fun Z=>kQ (fun Z=>qHO [4] 3 (fun Z=>JH 4 Z) Z) (kQ (fun Z=>kA [] 5 Z (kU jLI (kI 1))) (kQ (fun Z=>kA [4] 6 Z (kB YC (JH 4 Z) (kI 1))) (kQ (fun Z=>jLT [] 7 Qm Jb Z) (kQ (fun Z=>kA [6] 4 Z (JH 6 Z)) (kE))))) Z
def YH:Th:=fun Z=>Zp Jh QA 100000 Z
def YG:Th:=fun Z=>jTX 3 Z
def XI:Th:=fun Z=>kQ (YJ) (kQ (YI) (kQ (YH) (kQ (YG) (kE)))) Z
def J1:Td:=fnF 3 5 XI
theorem js:Q7 (JQ pW 39) ["_law_row","_law_width","_law_told_here"]:=fun _ _ _ _ h=>by obtain ⟨v0,v1,v2,rfl⟩:=qHY h;rfl
theorem qE (ok:c.Ok) (B:Bi c)  (hf:QZ c (JQ pW 39)):Fn c false 1 "_law_starts_by_table" (J1) :=
 Xd (ps:=["_law_row","_law_width","_law_told_here"]) (nm:=["_law_row","_law_width","_law_told_here","_law_found","_law_at","_law_size","_law_goal","_law_end"]) (f:=XI) 5 ok hf (dQ (JI 3 (JV (JD))) (dQ (JI 4 (JC)) (dQ (jGT 100000 (JJ qj (JB 4) (Jc ok B.len Ji (JA (JB 0) (JD)))) (dQ (qP 3 (JB 4)) (dQ (JI 5 (Yn jT (JC))) (dQ (JI 6 (JF Ja (JB 4) (JC))) (dQ (Ye 7 (QW ok B.range_ (JA (JF Ja (JB 4) (JC)) (JA (JF Ja (Jc ok B.len Ji (JA (JB 0) (JD))) (JC)) (JD)))) (dQ (JI 5 (JF Ja (JF Ja (JB 5) (JC)) (Jc ok B.len Ji (JA (JG (JB 0) (JF jS (JB 7) (JC))) (JD))))) (dQ (JM (JJ xp (JB 5) (JB 1)) (dQ (z0) (dE)) (dE)) (dQ (JM (JJ op_eq (JG (JB 2) (JB 4)) (JF Ja (JG (JB 2) (JB 7)) (JF Z5 (JF jAQ (JF jS (JB 1) (JB 5)) (JC)) (Ze ok B.int_ vC (JA (QN qj (JB 7) (Jc ok B.len Ji (JA (JB 0) (JD)))) (JD)))))) (dQ (JI 6 (JB 7)) (dE)) (dE)) (dE))))) (dQ (JI 4 (JB 6)) (dE))))))) (dQ (Qu 3) (dE))))) js
def X9:Th:=fun Z=>kF Z (kQ (fun Z=>kR Z (kB JL (kK J3 (kC (kB YC (kI 25) (kB jM (kB zi (JH 0 Z) (kI 72)) (kI 120))) (kC (kB jOU (kI 10) (kI 30)) (kN)))) (kB zi (kB jM (kB zi (JH 0 Z) (kI 72)) (kI 5)) (kI 4)))) (kE)) (kE) (kT eqF (kB jM (kB zi (JH 0 Z) (kI 24)) (kI 3)) (kI 1))
def Zz:Th:=fun Z=>kR Z (kB YC (kI 1) (kB jM (JH 0 Z) (kI 24)))
def Xe:Th:=fun Z=>kQ (X9) (kQ (Zz) (kE)) Z
def QM:Td:=fnF 1 0 Xe
theorem v8:Q7 (JQ pW 40) ["_law_cell"]:=fun _ _ _ _ h=>by obtain ⟨v0,rfl⟩:=jLO h;rfl
theorem zI (ok:c.Ok) (B:Bi c)  (hf:QZ c (JQ pW 40)):Fn c false 1 "_law_page_width" (QM) :=
 Xd (ps:=["_law_cell"]) (nm:=["_law_cell"]) (f:=Xe) 0 ok hf (dQ (JM (JJ op_eq (JF Ju (JF XR (JB 0) (JC)) (JC)) (JC)) (dQ (JE (JG (JV (JA (JF Ja (JC) (JF Ju (JF XR (JB 0) (JC)) (JC))) (JA (JF jAQ (JC) (JC)) (JD)))) (JF XR (JF Ju (JF XR (JB 0) (JC)) (JC)) (JC)))) (dE)) (dE)) (dQ (JE (JF Ja (JC) (JF Ju (JB 0) (JC)))) (dE))) v8
def jHY:Th:=fun Z=>kA [] 1 Z (kK J3 (kC (kK (zu "NoWidth") (JH 0 Z)) (kC (kK (zu "LongWord") (JH 0 Z)) (kC (kK (zu "NoStarts") (JH 0 Z)) (kC (kK (zu "TooWide") (JH 0 Z)) (kN))))))
def jHX:Th:=fun Z=>kA [1] 1 Z (kB YC (JH 1 Z) (kK J3 (kC (kK (zu "TooFew") (JH 0 Z)) (kC (kK (zu "TooMany") (JH 0 Z)) (kC (kK (zu "NoPlace") (JH 0 Z)) (kC (kK (zu "NoWord") (JH 0 Z)) (kN)))))))
def jHW:Th:=fun Z=>kA [1] 1 Z (kB YC (JH 1 Z) (kK J3 (kC (kK (zu "Full") (JH 0 Z)) (kC (kK (zu "NoWayBack") (JH 0 Z)) (kN)))))
def jJS:Tg:=fun Z=>kB jBG (kB YC (kI 11) (JH 0 Z)) (kK jUP (kC (kB JL (JH 1 Z) (JH 0 Z)) (kN)))
def jHV:Th:=fun Z=>kR Z (kK qNP (kC (kK (jN jJS (fun _=>some (.ok true)) [1] Z) (kK jEU (kC (kI 10) (kN)))) (kN)))
def jEA:Th:=fun Z=>kQ (jHY) (kQ (jHX) (kQ (jHW) (kQ (jHV) (kE)))) Z
def qS:Td:=fnF 1 1 jEA
theorem jFV:Q7 (JQ pW 42) ["_law_e"]:=fun _ _ _ _ h=>by obtain ⟨v0,rfl⟩:=jLO h;rfl
theorem jAV (ok:c.Ok) (B:Bi c) (X:Xs c)  (hf:QZ c (JQ pW 42)):Fn c hm 1 "_law_kind" (qS) :=
 Xd (ps:=["_law_e"]) (nm:=["_law_e","_law_flags"]) (f:=jEA) 1 ok hf (dQ (JI 1 (JV (JA (Yb ok B.isinstance X (JB 0)) (JA (Yb ok B.isinstance X (JB 0)) (JA (Yb ok B.isinstance X (JB 0)) (JA (Yb ok B.isinstance X (JB 0)) (JD))))))) (dQ (JI 1 (JF Ja (JB 1) (JV (JA (Yb ok B.isinstance X (JB 0)) (JA (Yb ok B.isinstance X (JB 0)) (JA (Yb ok B.isinstance X (JB 0)) (JA (Yb ok B.isinstance X (JB 0)) (JD)))))))) (dQ (JI 1 (JF Ja (JB 1) (JV (JA (Yb ok B.isinstance X (JB 0)) (JA (Yb ok B.isinstance X (JB 0)) (JD)))))) (dQ (JE (Jc ok B.sum qJD (JA (Yc [1] (QW ok B.range_ (JA (JC) (JD))) Yd (JF Z5 (JF Ja (JC) (JB 0)) (Ze ok B.int_ vC (JA (JG (JB 1) (JB 0)) (JD))))) (JD)))) (dE))))) jFV
def ZH:Th:=fun Z=>kF Z (kQ (fun Z=>kF Z (kQ (fun Z=>kR Z (kI 17)) (kE)) (kE) (kM (kG leF leF (kI 0) (kB JL (JH 3 Z) (kI 1)) (kK YA (kC (JH 0 Z) (kN)))))) (kQ (fun Z=>kF Z (kQ (fun Z=>kR Z (kI 18)) (kE)) (kE) (kO (kT eqF (kB JL (JH 3 Z) (kI 2)) (kS [])) (kO (kT inF (kS [32]) (kB JL (JH 3 Z) (kI 2))) (kO (kT inF (kS [10]) (kB JL (JH 3 Z) (kI 2))) (some (.ok false)))))) (kQ (fun Z=>kR Z (kW (kB jBG (kI 12) (kK jUP (kC (kB gtF (kK YA (kC (kB JL (JH 3 Z) (kI 2)) (kN))) (JH 1 Z)) (kN)))) (kB jBG (kI 19) (kK jUP (kC (kB geF (kK YA (kC (JH 0 Z) (kN))) (kI 120)) (kN)))))) (kE)))) (kE) (kT eqF (kB JL (JH 3 Z) (kI 0)) (kS [112,117,116]))
def jQ:Th:=fun Z=>kF Z (kQ (fun Z=>kR Z (kB jBG (kI 17) (kK jUP (kC (kU qFT (kH leF ltF (kI 0) (kB JL (JH 3 Z) (kI 1)) (kK YA (kC (JH 0 Z) (kN))))) (kN))))) (kE)) (kE) (kT eqF (kB JL (JH 3 Z) (kI 0)) (kS [100,114,111,112]))
def vB:Th:=fun Z=>kF Z (kQ (fun Z=>kR Z (kW (kB jBG (kI 11) (kK jUP (kC (kB ltF (kB JL (JH 3 Z) (kI 1)) (kI 1)) (kN)))) (kB jBG (kI 12) (kK jUP (kC (kB gtF (kK X0 (kC (JH 0 Z) (kN))) (kB JL (JH 3 Z) (kI 1))) (kN)))))) (kE)) (kE) (kT eqF (kB JL (JH 3 Z) (kI 0)) (kS [119,105,100,101,110]))
def jAP:Th:=fun Z=>kR Z (kB jBG (kI 20) (kK jUP (kC (kB eqF (JH 2 Z) (kK J3 (kN))) (kN))))
def vq:Th:=fun Z=>kQ (ZH) (kQ (jQ) (kQ (vB) (kQ (jAP) (kE)))) Z
def Yz:Td:=fnF 4 0 vq
theorem jKC:Q7 (JQ pW 44) ["_law_row","_law_width","_law_past","_law_deed"]:=fun _ _ _ _ h=>by obtain ⟨v0,v1,v2,v3,rfl⟩:=qGC h;rfl
theorem jPQ (ok:c.Ok) (B:Bi c) (vAK:Fn c false 1 "_law_longest" X0) (hf:QZ c (JQ pW 44)):Fn c false 2 "_law_due" (Yz) :=
 Xd (ps:=["_law_row","_law_width","_law_past","_law_deed"]) (nm:=["_law_row","_law_width","_law_past","_law_deed"]) (f:=vq) 0 ok hf (dQ (JM (JJ op_eq (JG (JB 3) (JC)) (JT)) (dQ (JM (QY (jUY qBS qBS (JC) (JG (JB 3) (JC)) (Jc ok B.len Ji (JA (JB 0) (JD))))) (dQ (JE (JC)) (dE)) (dE)) (dQ (JM (QD (Js (JJ op_eq (JG (JB 3) (JC)) (JT)) (Js (JJ qJG (JT) (JG (JB 3) (JC))) (Js (JJ qJG (JT) (JG (JB 3) (JC))) (J5))))) (dQ (JE (JC)) (dE)) (dE)) (dQ (JE (jMH (JF Z5 (JC) (Ze ok B.int_ vC (JA (QN xp (Jc ok B.len Ji (JA (JG (JB 3) (JC)) (JD))) (JB 1)) (JD)))) (Yw (JF Z5 (JC) (Ze ok B.int_ vC (JA (QN jXS (Jc ok B.len Ji (JA (JB 0) (JD))) (JC)) (JD))))))) (dE)))) (dE)) (dQ (JM (JJ op_eq (JG (JB 3) (JC)) (JT)) (dQ (JE (JF Z5 (JC) (Ze ok B.int_ vC (JA (Yn jSI (jZR qBS qj (JC) (JG (JB 3) (JC)) (Jc ok B.len Ji (JA (JB 0) (JD))))) (JD))))) (dE)) (dE)) (dQ (JM (JJ op_eq (JG (JB 3) (JC)) (JT)) (dQ (JE (jMH (JF Z5 (JC) (Ze ok B.int_ vC (JA (QN qj (JG (JB 3) (JC)) (JC)) (JD)))) (Yw (JF Z5 (JC) (Ze ok B.int_ vC (JA (QN xp (JO ok vAK (JA (JB 0) (JD))) (JG (JB 3) (JC))) (JD))))))) (dE)) (dE)) (dQ (JE (JF Z5 (JC) (Ze ok B.int_ vC (JA (QN op_eq (JB 2) (JV (JD))) (JD))))) (dE))))) jKC
def Yv:Th:=fun Z=>kA [0,1] 2 Z (kB jM (kB zi (JH 0 Z) (kI 93)) (JH 1 Z))
def jx:Th:=fun Z=>kR Z (kB YC (kB YC (kB jBG (kS [97]) (JH 2 Z)) (kK QH (kC (JH 0 Z) (kN)))) (kB jBG (kS [97]) (kB jNL (kB jNL (JH 1 Z) (kI 1)) (JH 2 Z))))
def jE:Th:=fun Z=>kQ (Yv) (kQ (jx) (kE)) Z
def Qo:Td:=fnF 2 1 jE
theorem zc:Q7 (JQ pW 45) ["_law_cell","_law_size"]:=fun _ _ _ _ h=>by obtain ⟨v0,v1,rfl⟩:=jFF h;rfl
theorem jBN (ok:c.Ok) (B:Bi c) (vAQ:Fn c false 1 "_law_sign_by" QH) (hf:QZ c (JQ pW 45)):Fn c false 2 "_law_alike_by" (Qo) :=
 Xd (ps:=["_law_cell","_law_size"]) (nm:=["_law_cell","_law_size","_law_at"]) (f:=jE) 1 ok hf (dQ (JI 2 (JF Ju (JF XR (JB 0) (JC)) (JB 1))) (dQ (JE (JF Ja (JF Ja (JF Z5 (JT) (JB 2)) (JO ok vAQ (JA (JB 0) (JD)))) (JF Z5 (JT) (JF jS (JF jS (JB 1) (JC)) (JB 2))))) (dE))) zc
def Yq:Th:=fun Z=>kF Z (kQ (fun Z=>kR Z (kB JL (kK J3 (kC (kU jLI (kI 2)) (kC (kB YC (JH 1 Z) (kI 3)) (kC (kB jOU (kI 10) (kI 30)) (kC (kU jLI (kB jOU (kI 10) (kI 30))) (kN)))))) (kB jM (JH 0 Z) (kI 4)))) (kE)) (kE) (kT eqF (kB jM (kB zi (JH 0 Z) (kI 7)) (kI 16)) (kI 1))
def ju:Th:=fun Z=>kR Z (kB jNL (kB jM (JH 0 Z) (kB YC (JH 1 Z) (kI 3))) (kI 1))
def YY:Th:=fun Z=>kQ (Yq) (kQ (ju) (kE)) Z
def QO:Td:=fnF 2 0 YY
theorem zW:Q7 (JQ pW 46) ["_law_more","_law_count"]:=fun _ _ _ _ h=>by obtain ⟨v0,v1,rfl⟩:=jFF h;rfl
theorem jBI (ok:c.Ok) (B:Bi c)  (hf:QZ c (JQ pW 46)):Fn c false 1 "_law_place_by" (QO) :=
 Xd (ps:=["_law_more","_law_count"]) (nm:=["_law_more","_law_count"]) (f:=YY) 0 ok hf (dQ (JM (JJ op_eq (JF Ju (JF XR (JB 0) (JC)) (JC)) (JC)) (dQ (JE (JG (JV (JA (Yn jT (JC)) (JA (JF Ja (JB 1) (JC)) (JA (JF jAQ (JC) (JC)) (JA (Yn jT (JF jAQ (JC) (JC))) (JD)))))) (JF Ju (JB 0) (JC)))) (dE)) (dE)) (dQ (JE (JF jS (JF Ju (JB 0) (JF Ja (JB 1) (JC))) (JC))) (dE))) zW
def ZU:Th:=fun Z=>kA [0] 2 Z (kB jM (JH 0 Z) (kI 16))
def ZT:Th:=fun Z=>kA [0] 3 Z (kB zi (JH 0 Z) (kI 16))
def Jl:Th:=fun Z=>kF Z (kQ (fun Z=>kA [3] 4 Z (kK Xy (kC (kB zi (JH 3 Z) (kI 50)) (kN)))) (kQ (fun Z=>kF Z (kQ (fun Z=>kA [3,3] 4 Z (kK Qo (kC (kB zi (JH 3 Z) (kI 50)) (kC (kB YC (kI 1) (kB jM (kB zi (JH 3 Z) (kI 8)) (kI 4))) (kN))))) (kE)) (kE) (kT eqF (kB jM (JH 3 Z) (kI 4)) (kI 3))) (kQ (fun Z=>kF Z (kQ (fun Z=>kA [3,4] 5 Z (kB jM (kB zi (JH 3 Z) (kI 950)) (kB YC (kK YA (kC (JH 4 Z) (kN))) (kI 1)))) (kQ (fun Z=>kA [3,3] 4 Z (kB jBG (kB YC (kB YC (kZ (some (.ok none)) (kK Xx (JH 5 Z)) (JH 4 Z)) (kB JL (kS [32,10]) (kB jM (JH 3 Z) (kI 2)))) (kZ (kK Xx (JH 5 Z)) (some (.ok none)) (JH 4 Z))) (kK jUP (kC (kB gtF (kB jM (JH 3 Z) (kI 7)) (kI 0)) (kN))))) (kQ (fun Z=>kF Z (kQ (fun Z=>kA [3,3] 4 Z (kB jBG (kB JL (kS [32,10]) (kB jM (kB zi (JH 3 Z) (kI 7)) (kI 2))) (kB YC (kI 1) (kB jM (kB zi (JH 3 Z) (kI 14)) (kI 2))))) (kE)) (kE) (kT eqF (kB jM (JH 3 Z) (kI 7)) (kI 1))) (kE)))) (kE) (kT eqF (kB jM (kB zi (JH 3 Z) (kI 50)) (kI 19)) (kI 1))) (kQ (fun Z=>kR Z (kK yW (kC (kS [112,117,116]) (kC (kK QO (kC (JH 3 Z) (kC (JH 1 Z) (kN)))) (kC (JH 4 Z) (kN)))))) (kE))))) (kE) (kT ltF (JH 2 Z) (kI 8))
def QT:Th:=fun Z=>kF Z (kQ (fun Z=>kR Z (kK yW (kC (kS [100,114,111,112]) (kC (kK QO (kC (JH 3 Z) (kC (JH 1 Z) (kN)))) (kN))))) (kE)) (kE) (kT ltF (JH 2 Z) (kI 11))
def Q0:Th:=fun Z=>kF Z (kQ (fun Z=>kA [3] 6 Z (kB JL (kK J3 (kC (kB jOU (kI 10) (kI 30)) (kC (kU jLI (kB jOU (kI 10) (kI 30))) (kN)))) (kB jM (kB zi (JH 3 Z) (kI 4)) (kI 2)))) (kQ (fun Z=>kR Z (kK yW (kC (kS [119,105,100,101,110]) (kC (kB JL (kK J3 (kC (kB jNL (kB jM (JH 3 Z) (kI 42)) (kI 1)) (kC (kB YC (kI 42) (kB jM (kB zi (JH 3 Z) (kI 4)) (kI 120))) (kC (JH 6 Z) (kC (kB jM (kB zi (JH 3 Z) (kI 4)) (kI 42)) (kN)))))) (kB jM (JH 3 Z) (kI 4))) (kN))))) (kE))) (kE) (kT ltF (JH 2 Z) (kI 13))
def X4:Th:=fun Z=>kF Z (kQ (fun Z=>kR Z (kK yW (kC (kS [102,105,108,108]) (kN)))) (kE)) (kE) (kD (kT eqF (JH 2 Z) (kI 15)) (kD (kT eqF (kB jM (JH 3 Z) (kI 4)) (kI 1)) (some (.ok true))))
def ZS:Th:=fun Z=>kR Z (kK yW (kC (kS [117,110,100,111]) (kN)))
def jp:Th:=fun Z=>kQ (ZU) (kQ (ZT) (kQ (Jl) (kQ (QT) (kQ (Q0) (kQ (X4) (kQ (ZS) (kE))))))) Z
def XG:Td:=fnF 2 5 jp
theorem jAD:Q7 (JQ pW 47) ["_law_cell","_law_count"]:=fun _ _ _ _ h=>by obtain ⟨v0,v1,rfl⟩:=jFF h;rfl
theorem jDW (ok:c.Ok) (B:Bi c) (vAC:Fn c false 2 "_law_alike_by" Qo) (vAP:Fn c false 2 "_law_place_by" QO) (vAX:Fn c false 2 "_law_word_by" Xy) (hf:QZ c (JQ pW 47)):Fn c false 3 "_law_deed_by" (XG) :=
 Xd (ps:=["_law_cell","_law_count"]) (nm:=["_law_cell","_law_count","_law_kind_here","_law_more","_law_word","_law_at","_law_great"]) (f:=jp) 5 ok hf (dQ (JI 2 (JF Ju (JB 0) (JC))) (dQ (JI 3 (JF XR (JB 0) (JC))) (dQ (JM (JJ qj (JB 2) (JC)) (dQ (JI 4 (JO ok vAX (JA (JF XR (JB 3) (JC)) (JD)))) (dQ (JM (JJ op_eq (JF Ju (JB 3) (JC)) (JC)) (dQ (JI 4 (JO ok vAC (JA (JF XR (JB 3) (JC)) (JA (JF Ja (JC) (JF Ju (JF XR (JB 3) (JC)) (JC))) (JD))))) (dE)) (dE)) (dQ (JM (JJ op_eq (JF Ju (JF XR (JB 3) (JC)) (JC)) (JC)) (dQ (JI 5 (JF Ju (JF XR (JB 3) (JC)) (JF Ja (Jc ok B.len Ji (JA (JB 4) (JD))) (JC)))) (dQ (JI 4 (JF Z5 (JF Ja (JF Ja (jGS (JB 4) QX (J0 (JB 5))) (JG (JT) (JF Ju (JB 3) (JC)))) (jGS (JB 4) (J0 (JB 5)) QX)) (Ze ok B.int_ vC (JA (QN xp (JF Ju (JB 3) (JC)) (JC)) (JD))))) (dQ (JM (JJ op_eq (JF Ju (JB 3) (JC)) (JC)) (dQ (JI 4 (JF Z5 (JG (JT) (JF Ju (JF XR (JB 3) (JC)) (JC))) (JF Ja (JC) (JF Ju (JF XR (JB 3) (JC)) (JC))))) (dE)) (dE)) (dE)))) (dE)) (dQ (JE (QF (JA (JT) (JA (JO ok vAP (JA (JB 3) (JA (JB 1) (JD)))) (JA (JB 4) (JD)))))) (dE))))) (dE)) (dQ (JM (JJ qj (JB 2) (JC)) (dQ (JE (QF (JA (JT) (JA (JO ok vAP (JA (JB 3) (JA (JB 1) (JD)))) (JD))))) (dE)) (dE)) (dQ (JM (JJ qj (JB 2) (JC)) (dQ (JI 6 (JG (JV (JA (JF jAQ (JC) (JC)) (JA (Yn jT (JF jAQ (JC) (JC))) (JD)))) (JF Ju (JF XR (JB 3) (JC)) (JC)))) (dQ (JE (QF (JA (JT) (JA (JG (JV (JA (JF jS (JF Ju (JB 3) (JC)) (JC)) (JA (JF Ja (JC) (JF Ju (JF XR (JB 3) (JC)) (JC))) (JA (JB 6) (JA (JF Ju (JF XR (JB 3) (JC)) (JC)) (JD)))))) (JF Ju (JB 3) (JC))) (JD))))) (dE))) (dE)) (dQ (JM (QD (vr (JJ op_eq (JB 2) (JC)) (vr (JJ op_eq (JF Ju (JB 3) (JC)) (JC)) (vN)))) (dQ (JE (QF (JA (JT) (JD)))) (dE)) (dE)) (dQ (JE (QF (JA (JT) (JD)))) (dE)))))))) jAD
def QK:Th:=fun Z=>kA [0,1] 4 Z (kK XG (kC (JH 0 Z) (kC (JH 1 Z) (kN))))
def QJ:Th:=fun Z=>kF Z (kQ (fun Z=>kR Z (kK J3 (kC (JH 4 Z) (kN)))) (kE)) (kE) (kT neF (kB JL (JH 4 Z) (kI 0)) (kS [102,105,108,108]))
def Qj:Th:=fun Z=>kF Z (kQ (fun Z=>kR Z (kK J3 (kC (kK yW (kC (kS [117,110,100,111]) (kN))) (kN)))) (kE)) (kE) (kO (kV (JH 3 Z)) (kO (kT gtF (JH 1 Z) (kI 117)) (kO (kT gtF (JH 2 Z) (kI 99)) (some (.ok false)))))
def Xf:Tg:=fun Z=>kK yW (kC (kS [112,117,116]) (kC (kI 0) (kC (kK QH (kC (kB YC (JH 1 Z) (JH 0 Z)) (kN))) (kN))))
def jv:Th:=fun Z=>kR Z (kK (jN Xf (fun _=>some (.ok true)) [0] Z) (kK jEU (kC (kB jNL (kI 119) (JH 1 Z)) (kN))))
def jC:Th:=fun Z=>kQ (QK) (kQ (QJ) (kQ (Qj) (kQ (jv) (kE)))) Z
def Xa:Td:=fnF 4 1 jC
theorem zY:Q7 (JQ pW 52) ["_law_cell","_law_count","_law_width","_law_filled"]:=fun _ _ _ _ h=>by obtain ⟨v0,v1,v2,v3,rfl⟩:=qGC h;rfl
theorem jBK (ok:c.Ok) (B:Bi c) (vAG:Fn c false 3 "_law_deed_by" XG) (vAQ:Fn c false 3 "_law_sign_by" QH) (hf:QZ c (JQ pW 52)):Fn c false 4 "_law_deeds_by" (Xa) :=
 Xd (ps:=["_law_cell","_law_count","_law_width","_law_filled"]) (nm:=["_law_cell","_law_count","_law_width","_law_filled","_law_deed"]) (f:=jC) 1 ok hf (dQ (JI 4 (JO ok vAG (JA (JB 0) (JA (JB 1) (JD))))) (dQ (JM (JJ jDG (JG (JB 4) (JC)) (JT)) (dQ (JE (JV (JA (JB 4) (JD)))) (dE)) (dE)) (dQ (JM (QD (Js (QQ (JB 3)) (Js (JJ xp (JB 1) (JC)) (Js (JJ xp (JB 2) (JC)) (J5))))) (dQ (JE (JV (JA (QF (JA (JT) (JD))) (JD)))) (dE)) (dE)) (dQ (JE (Yc [0] (QW ok B.range_ (JA (JF jS (JC) (JB 1)) (JD))) Yd (QF (JA (JT) (JA (JC) (JA (JO ok vAQ (JA (JF Ja (JB 1) (JB 0)) (JD))) (JD))))))) (dE))))) zY
def QL:Th:=fun Z=>kF Z (kQ (fun Z=>kR Z (kJ (kK Qr (kC (JH 0 Z) (kN))) (kB eqF (JH 0 Z) (JH 3 Z)))) (kE)) (kE) (kT neF (JH 3 Z) (kI 0))
def Ql:Th:=fun Z=>kF Z (kQ (fun Z=>kR Z (kJ (kK (jPI "str") (JH 0 Z)) (kB eqF (JH 0 Z) (kB JL (JH 1 Z) (kB JL (JH 2 Z) (kI 1)))))) (kE)) (kE) (kT eqF (kB JL (JH 2 Z) (kI 0)) (kS [100,114,111,112]))
def Qk:Th:=fun Z=>kR Z (kB isF (JH 0 Z) (some (.ok (.none,2))))
def Jv:Th:=fun Z=>kQ (QL) (kQ (Ql) (kQ (Qk) (kE))) Z
def QP:Td:=fnF 4 0 Jv
theorem zZ:Q7 (JQ pW 53) ["_law_found","_law_row","_law_deed","_law_due_here"]:=fun _ _ _ _ h=>by obtain ⟨v0,v1,v2,v3,rfl⟩:=qGC h;rfl
theorem jBL (ok:c.Ok) (B:Bi c) (vAV:Fn c false 1 "_law_whole" Qr) (hf:QZ c (JQ pW 53)):Fn c false 2 "_law_answered" (QP) :=
 Xd (ps:=["_law_found","_law_row","_law_deed","_law_due_here"]) (nm:=["_law_found","_law_row","_law_deed","_law_due_here"]) (f:=Jv) 0 ok hf (dQ (JM (JJ jDG (JB 3) (JC)) (dQ (JE (qN (JO ok vAV (JA (JB 0) (JD))) (Yw (QN op_eq (JB 0) (JB 3))))) (dE)) (dE)) (dQ (JM (JJ op_eq (JG (JB 2) (JC)) (JT)) (dQ (JE (qN (qM ok B.isinstance B.str_ (JB 0)) (Yw (QN op_eq (JB 0) (JG (JB 1) (JG (JB 2) (JC))))))) (dE)) (dE)) (dQ (JE (QN qJF (JB 0) (Qt))) (dE)))) zZ
def Xw:Th:=fun Z=>kF Z (kQ (fun Z=>kR Z (kK yW (kC (kB JL (kB JL (JH 2 Z) (kU jLI (kI 1))) (kI 0)) (kC (kB JL (kB JL (JH 2 Z) (kU jLI (kI 1))) (kI 1)) (kC (kL (some (.ok none)) (kK Xx (kU jLI (kI 1))) (JH 2 Z)) (kN)))))) (kE)) (kE) (kT eqF (kB JL (JH 3 Z) (kI 0)) (kS [117,110,100,111]))
def Y8:Th:=fun Z=>kA [2,0,1] 2 Z (kB YC (JH 2 Z) (kK J3 (kC (kK yW (kC (JH 0 Z) (kC (JH 1 Z) (kN)))) (kN))))
def Y7:Th:=fun Z=>kF Z (kQ (fun Z=>kR Z (kK yW (kC (kB YC (kB YC (kL (some (.ok none)) (kK Xx (kB JL (JH 3 Z) (kI 1))) (JH 0 Z)) (kK J3 (kC (kB JL (JH 3 Z) (kI 2)) (kN)))) (kL (kK Xx (kB JL (JH 3 Z) (kI 1))) (some (.ok none)) (JH 0 Z))) (kC (JH 1 Z) (kC (JH 2 Z) (kN)))))) (kE)) (kE) (kT eqF (kB JL (JH 3 Z) (kI 0)) (kS [112,117,116]))
def jh:Th:=fun Z=>kF Z (kQ (fun Z=>kR Z (kK yW (kC (kB YC (kL (some (.ok none)) (kK Xx (kB JL (JH 3 Z) (kI 1))) (JH 0 Z)) (kL (kK Xx (kB YC (kB JL (JH 3 Z) (kI 1)) (kI 1))) (some (.ok none)) (JH 0 Z))) (kC (JH 1 Z) (kC (JH 2 Z) (kN)))))) (kE)) (kE) (kT eqF (kB JL (JH 3 Z) (kI 0)) (kS [100,114,111,112]))
def xU:Th:=fun Z=>kR Z (kK yW (kC (JH 0 Z) (kC (kB JL (JH 3 Z) (kI 1)) (kC (JH 2 Z) (kN)))))
def jX:Th:=fun Z=>kQ (Xw) (kQ (Y8) (kQ (Y7) (kQ (jh) (kQ (xU) (kE))))) Z
def ZN:Td:=fnF 4 0 jX
theorem jEP:Q7 (JQ pW 54) ["_law_row","_law_width","_law_past","_law_deed"]:=fun _ _ _ _ h=>by obtain ⟨v0,v1,v2,v3,rfl⟩:=qGC h;rfl
theorem jJJ (ok:c.Ok) (B:Bi c)  (hf:QZ c (JQ pW 54)):Fn c false 1 "_law_after" (ZN) :=
 Xd (ps:=["_law_row","_law_width","_law_past","_law_deed"]) (nm:=["_law_row","_law_width","_law_past","_law_deed"]) (f:=jX) 0 ok hf (dQ (JM (JJ op_eq (JG (JB 3) (JC)) (JT)) (dQ (JE (QF (JA (JG (JG (JB 2) (Yn jT (JC))) (JC)) (JA (JG (JG (JB 2) (Yn jT (JC))) (JC)) (JA (QV (JB 2) QX (J0 (Yn jT (JC)))) (JD)))))) (dE)) (dE)) (dQ (JI 2 (JF Ja (JB 2) (JV (JA (QF (JA (JB 0) (JA (JB 1) (JD)))) (JD))))) (dQ (JM (JJ op_eq (JG (JB 3) (JC)) (JT)) (dQ (JE (QF (JA (JF Ja (JF Ja (QV (JB 0) QX (J0 (JG (JB 3) (JC)))) (JV (JA (JG (JB 3) (JC)) (JD)))) (QV (JB 0) (J0 (JG (JB 3) (JC))) QX)) (JA (JB 1) (JA (JB 2) (JD)))))) (dE)) (dE)) (dQ (JM (JJ op_eq (JG (JB 3) (JC)) (JT)) (dQ (JE (QF (JA (JF Ja (QV (JB 0) QX (J0 (JG (JB 3) (JC)))) (QV (JB 0) (J0 (JF Ja (JG (JB 3) (JC)) (JC))) QX)) (JA (JB 1) (JA (JB 2) (JD)))))) (dE)) (dE)) (dQ (JE (QF (JA (JB 0) (JA (JG (JB 3) (JC)) (JA (JB 2) (JD)))))) (dE)))))) jEP
def Jp:Th:=fun Z=>kF Z (kQ (fun Z=>kR Z (kK J3 (kC (kK yW (kC (kS [119,105,100,101,110]) (kC (kK YA (kC (kB JL (JH 1 Z) (kI 2)) (kN))) (kN)))) (kC (JH 1 Z) (kN))))) (kE)) (kE) (kD (kT eqF (JH 0 Z) (kI 12)) (kD (kT eqF (kB JL (JH 1 Z) (kI 0)) (kS [112,117,116])) (some (.ok true))))
def XJ:Th:=fun Z=>kF Z (kQ (fun Z=>kR Z (kK J3 (kC (kK yW (kC (kS [100,114,111,112]) (kC (kI 0) (kN)))) (kC (JH 1 Z) (kN))))) (kE)) (kE) (kT eqF (JH 0 Z) (kI 19))
def YN:Th:=fun Z=>kF Z (kQ (fun Z=>kR Z (kK J3 (kC (kK yW (kC (kS [112,117,116]) (kC (kI 0) (kC (kS [97]) (kN))))) (kC (JH 1 Z) (kN))))) (kE)) (kE) (kT eqF (JH 0 Z) (kI 20))
def jP:Th:=fun Z=>kR Z (kK J3 (kN))
def X8:Th:=fun Z=>kQ (Jp) (kQ (XJ) (kQ (YN) (kQ (jP) (kE)))) Z
def Q6:Td:=fnF 2 0 X8
theorem yV:Q7 (JQ pW 56) ["_law_due_here","_law_deed"]:=fun _ _ _ _ h=>by obtain ⟨v0,v1,rfl⟩:=jFF h;rfl
theorem zw (ok:c.Ok) (B:Bi c)  (hf:QZ c (JQ pW 56)):Fn c false 1 "_law_made_good" (Q6) :=
 Xd (ps:=["_law_due_here","_law_deed"]) (nm:=["_law_due_here","_law_deed"]) (f:=X8) 0 ok hf (dQ (JM (QD (vr (JJ op_eq (JB 0) (JC)) (vr (JJ op_eq (JG (JB 1) (JC)) (JT)) (vN)))) (dQ (JE (JV (JA (QF (JA (JT) (JA (Jc ok B.len Ji (JA (JG (JB 1) (JC)) (JD))) (JD)))) (JA (JB 1) (JD))))) (dE)) (dE)) (dQ (JM (JJ op_eq (JB 0) (JC)) (dQ (JE (JV (JA (QF (JA (JT) (JA (JC) (JD)))) (JA (JB 1) (JD))))) (dE)) (dE)) (dQ (JM (JJ op_eq (JB 0) (JC)) (dQ (JE (JV (JA (QF (JA (JT) (JA (JC) (JA (JT) (JD))))) (JA (JB 1) (JD))))) (dE)) (dE)) (dQ (JE (JV (JD))) (dE))))) yV
def ku:Tf:=fun Wz Z=>kR Z (kK jAT (kC (YB Wz 0 "kept" Z) (kN)))
def xx:Tf:=fun Wz Z=>kQ ((ku Wz)) (kE) Z
def Qc:Sg -> Td:=fun Wz=>fnF 1 0 (xx Wz)
theorem jFN:jET (jFB pW 29 6) ["self"]:=fun _ _ _ _ _ h=>by obtain ⟨v0,rfl⟩:=jLO h;rfl
theorem jLW (ok:c.Ok) (B:Bi c) (hw:Wd c) (pc:Pc c pW 29 K C) :Me c K C false 1 "words_now" (Qc c.sg) :=
 jIQ (ps:=["self"]) (nm:=["self"]) (f:=xx c.sg) 0 ok pc (k0z:=6) (by decide) rfl (by
 refine dQ (f:=ku c.sg) ?_ ?_
 ·exact (JE (Ze ok B.list_ jDH (JA (Jk (j:=0) hw pc rfl) (JD))))
 exact dE) jFN
def kv:Tf:=fun Wz Z=>kR Z (YB Wz 0 "wide" Z)
def xy:Tf:=fun Wz Z=>kQ ((kv Wz)) (kE) Z
def YD:Sg -> Td:=fun Wz=>fnF 1 0 (xy Wz)
theorem jFO:jET (jFB pW 29 7) ["self"]:=fun _ _ _ _ _ h=>by obtain ⟨v0,rfl⟩:=jLO h;rfl
theorem jLX (ok:c.Ok) (B:Bi c) (hw:Wd c) (pc:Pc c pW 29 K C) :Me c K C false 1 "width_now" (YD c.sg) :=
 jIQ (ps:=["self"]) (nm:=["self"]) (f:=xy c.sg) 0 ok pc (k0z:=7) (by decide) rfl (by
 refine dQ (f:=kv c.sg) ?_ ?_
 ·exact (JE (Jk (j:=0) hw pc rfl))
 exact dE) jFO
def kw:Tf:=fun Wz Z=>kR Z (kK Yx (kC (YB Wz 0 "kept" Z) (kC (YB Wz 0 "wide" Z) (kN))))
def xz:Tf:=fun Wz Z=>kQ ((kw Wz)) (kE) Z
def XW:Sg -> Td:=fun Wz=>fnF 1 0 (xz Wz)
theorem jFP:jET (jFB pW 29 8) ["self"]:=fun _ _ _ _ _ h=>by obtain ⟨v0,rfl⟩:=jLO h;rfl
theorem jLY (ok:c.Ok) (B:Bi c) (hw:Wd c) (pc:Pc c pW 29 K C) (vAi:Fn c false 4 "table_of" Yx):Me c K C false 5 "table_now" (XW c.sg) :=
 jIQ (ps:=["self"]) (nm:=["self"]) (f:=xz c.sg) 0 ok pc (k0z:=8) (by decide) rfl (by
 refine dQ (f:=kw c.sg) ?_ ?_
 ·exact (JE (JO ok vAi (JA (Jk (j:=0) hw pc rfl) (JA (Jk (j:=0) hw pc rfl) (JD)))))
 exact dE) jFP
def je:Tf:=fun Wz Z=>kR Z (kK Yl (kC (YB Wz 0 "kept" Z) (kC (YB Wz 0 "wide" Z) (kN))))
def vG:Tf:=fun Wz Z=>kQ ((je Wz)) (kE) Z
def QG:Sg -> Td:=fun Wz=>fnF 1 0 (vG Wz)
theorem jEI:jET (jFB pW 29 9) ["self"]:=fun _ _ _ _ _ h=>by obtain ⟨v0,rfl⟩:=jLO h;rfl
theorem jJD (ok:c.Ok) (B:Bi c) (hw:Wd c) (pc:Pc c pW 29 K C) (vAZ:Fn c false 5 "best_starts" Yl):Me c K C false 6 "starts_now" (QG c.sg) :=
 jIQ (ps:=["self"]) (nm:=["self"]) (f:=vG c.sg) 0 ok pc (k0z:=9) (by decide) rfl (by
 refine dQ (f:=je c.sg) ?_ ?_
 ·exact (JE (JO ok vAZ (JA (Jk (j:=0) hw pc rfl) (JA (Jk (j:=0) hw pc rfl) (JD)))))
 exact dE) jEI
def ky:Tf:=fun Wz Z=>kR Z (kK kj (kC (YB Wz 0 "kept" Z) (kC (Zf Wz 0 (fun d _=>QG Wz [d]) Z) (kN))))
def yJ:Tf:=fun Wz Z=>kQ ((ky Wz)) (kE) Z
def XX:Sg -> Td:=fun Wz=>fnF 1 0 (yJ Wz)
theorem jFS:jET (jFB pW 29 10) ["self"]:=fun _ _ _ _ _ h=>by obtain ⟨v0,rfl⟩:=jLO h;rfl
theorem jMB (ok:c.Ok) (B:Bi c) (hw:Wd c) (pc:Pc c pW 29 K C) (vAc:Fn c false 6 "lines_of" kj) (vAn:Me c K C false 6 "starts_now" (QG c.sg)):Me c K C false 7 "lines_now" (XX c.sg) :=
 jIQ (ps:=["self"]) (nm:=["self"]) (f:=yJ c.sg) 0 ok pc (k0z:=10) (by decide) rfl (by
 refine dQ (f:=ky c.sg) ?_ ?_
 ·exact (JE (JO ok vAc (JA (Jk (j:=0) hw pc rfl) (JA (XU (j:=0) hw pc rfl vAn) (JD)))))
 exact dE) jFS
def jBX:Tf:=fun Wz Z=>kY Z (kK Je (kC (JH 1 Z) (kN)))
def qEN:Tf:=fun Wz Z=>kQ ((jBX Wz)) (fun _=>none) Z
theorem qDC (ok:c.Ok) (B:Bi c) (hw:Wd c) (pc:Pc c pW 29 K C) (vAf:Fn c false 1 "need_width" Je):kn c false 1 (jFB pW 29 0).scope ["self","width"] (jFB pW 29 0).body (qEN c.sg) :=
 by
 refine dQ (f:=jBX c.sg) ?_ ?_
 ·exact (jG (JO ok vAf (JA (JB 1) (JD))))
 exact kg
theorem zd:jET (jFB pW 29 0) ["self","width"]:=fun _ _ _ _ _ h=>by obtain ⟨v0,v1,rfl⟩:=jFF h;rfl
def jGZ:Td:=fun ds=>match ds with
 | [d]=>(match Je [d] with
  | some (.exc k)=>some (.exc k)
  | _=>none)
 | _=>none
def qt:Tf:=fun Wz Z=>kF Z (kQ (fun Z=>some (.raise "NoPlace")) (kE)) (kE) (kO (kT ltF (JH 1 Z) (kI 0)) (kO (kT gtF (JH 1 Z) (kK YA (kC (YB Wz 0 "kept" Z) (kN)))) (some (.ok false))))
def jCX:Tf:=fun Wz Z=>kF Z (kQ (fun Z=>some (.raise "NoWord")) (kE)) (kE) (kM (kV (kK jK (kC (JH 2 Z) (kN)))))
def xm:Tf:=fun Wz Z=>kF Z (kQ (fun Z=>some (.raise "LongWord")) (kE)) (kE) (kT gtF (kK YA (kC (JH 2 Z) (kN))) (YB Wz 0 "wide" Z))
def xj:Tf:=fun Wz Z=>kF Z (kQ (fun Z=>some (.raise "Full")) (kE)) (kE) (kT geF (kK YA (kC (YB Wz 0 "kept" Z) (kN))) (kI 120))
def qGV:Tf:=fun Wz Z=>kQ ((qt Wz)) (kQ ((jCX Wz)) (kQ ((xm Wz)) (kQ ((xj Wz)) (fun _=>none)))) Z
def qAW:Sg -> Td:=fun Wz=>fnF 3 0 (qGV Wz)
theorem jTE:jET (jFB pW 29 2) ["self","at","word"]:=fun _ _ _ _ _ h=>by obtain ⟨v0,v1,v2,rfl⟩:=qHY h;rfl
theorem qJZ (ok:c.Ok) (B:Bi c) (X:Xs c) (hw:Wd c) (pc:Pc c pW 29 K C) (mw:Mw c) (vAb:Fn c false 1 "is_word" jK):Me c K C false 2 "put" (qAW c.sg) :=
 jIQ (ps:=["self","at","word"]) (nm:=["self","at","word"]) (f:=qGV c.sg) 0 ok pc (k0z:=2) (by decide) rfl (by
 refine dQ (f:=qt c.sg) ?_ ?_
 ·exact (JM (QD (Js (JJ qj (JB 1) (JC)) (Js (JJ xp (JB 1) (Jc ok B.len Ji (JA (Jk (j:=0) hw pc rfl) (JD)))) (J5)))) (dQ (J4 ok X) (dE)) (dE))
 refine dQ (f:=jCX c.sg) ?_ ?_
 ·exact (JM (QY (QQ (JO ok vAb (JA (JB 2) (JD))))) (dQ (J4 ok X) (dE)) (dE))
 refine dQ (f:=xm c.sg) ?_ ?_
 ·exact (JM (JJ xp (Jc ok B.len Ji (JA (JB 2) (JD))) (Jk (j:=0) hw pc rfl)) (dQ (J4 ok X) (dE)) (dE))
 refine dQ (f:=xj c.sg) ?_ ?_
 ·exact (JM (JJ jXS (Jc ok B.len Ji (JA (Jk (j:=0) hw pc rfl) (JD))) (jPY ok mw)) (dQ (J4 ok X) (dE)) (dE))
 exact kg) jTE
def jO:Tf:=fun Wz Z=>kF Z (kQ (fun Z=>some (.raise "NoPlace")) (kE)) (kE) (kO (kT ltF (JH 1 Z) (kI 0)) (kO (kT geF (JH 1 Z) (kK YA (kC (YB Wz 0 "kept" Z) (kN)))) (some (.ok false))))
def yo:Tf:=fun Wz Z=>kA [0,1] 2 Z (kB JL (YB Wz 0 "kept" Z) (JH 1 Z))
def jZD:Tf:=fun Wz Z=>kQ ((jO Wz)) (kQ ((yo Wz)) (fun _=>none)) Z
def jNJ:Sg -> Td:=fun Wz=>fnF 2 1 (jZD Wz)
theorem jMX:jET (jFB pW 29 3) ["self","at"]:=fun _ _ _ _ _ h=>by obtain ⟨v0,v1,rfl⟩:=jFF h;rfl
theorem qGQ (ok:c.Ok) (B:Bi c) (X:Xs c) (hw:Wd c) (pc:Pc c pW 29 K C) :Me c K C false 1 "drop" (jNJ c.sg) :=
 jIQ (ps:=["self","at"]) (nm:=["self","at","word"]) (f:=jZD c.sg) 1 ok pc (k0z:=3) (by decide) rfl (by
 refine dQ (f:=jO c.sg) ?_ ?_
 ·exact (JM (QD (Js (JJ qj (JB 1) (JC)) (Js (JJ jXS (JB 1) (Jc ok B.len Ji (JA (Jk (j:=0) hw pc rfl) (JD)))) (J5)))) (dQ (J4 ok X) (dE)) (dE))
 refine dQ (f:=yo c.sg) ?_ ?_
 ·exact (JI 2 (JG (Jk (j:=0) hw pc rfl) (JB 1)))
 exact kg) jMX
def qr:Tf:=fun Wz Z=>kY Z (kK Jt (kC (YB Wz 0 "kept" Z) (kC (JH 1 Z) (kN))))
def jPT:Tf:=fun Wz Z=>kQ ((qr Wz)) (fun _=>none) Z
def jES:Sg -> Td:=fun Wz=>fnF 2 0 (jPT Wz)
theorem jGW:jET (jFB pW 29 4) ["self","width"]:=fun _ _ _ _ _ h=>by obtain ⟨v0,v1,rfl⟩:=jFF h;rfl
theorem qCO (ok:c.Ok) (B:Bi c) (hw:Wd c) (pc:Pc c pW 29 K C) (vAg:Fn c false 3 "need_words" Jt):Me c K C false 4 "widen" (jES c.sg) :=
 jIQ (ps:=["self","width"]) (nm:=["self","width"]) (f:=jPT c.sg) 0 ok pc (k0z:=4) (by decide) rfl (by
 refine dQ (f:=qr c.sg) ?_ ?_
 ·exact (jG (JO ok vAg (JA (Jk (j:=0) hw pc rfl) (JA (JB 1) (JD)))))
 exact kg) jGW
def jHS:Tf:=fun Wz Z=>kF Z (kQ (fun Z=>some (.raise "NoWayBack")) (kE)) (kE) (jXQ Wz 0 Z)
def jZC:Tf:=fun Wz Z=>kQ ((jHS Wz)) (fun _=>none) Z
def jNI:Sg -> Td:=fun Wz=>fnF 1 1 (jZC Wz)
theorem jMV:jET (jFB pW 29 5) ["self"]:=fun _ _ _ _ _ h=>by obtain ⟨v0,rfl⟩:=jLO h;rfl
theorem qGP (ok:c.Ok) (B:Bi c) (X:Xs c) (hw:Wd c) (pc:Pc c pW 29 K C) :Me c K C false 1 "undo" (jNI c.sg) :=
 jIQ (ps:=["self"]) (nm:=["self","ahead"]) (f:=jZC c.sg) 1 ok pc (k0z:=5) (by decide) rfl (by
 refine dQ (f:=jHS c.sg) ?_ ?_
 ·exact (JM (jML (j:=0) hw pc) (dQ (J4 ok X) (dE)) (dE))
 exact kg) jMV
def qY:Th:=fun Z=>qHV "NoWidth" 1 (kQ (fun Z=>kR Z (kK jGZ (kC (JH 0 Z) (kN)))) (kE)) (kQ (fun Z=>kR Z (kK jUP (kC (kJ (kK (zu "WrapError") (JH 1 Z)) (kK qGI (JH 1 Z))) (kN)))) (kE)) Z
def jn:Th:=fun Z=>kQ (qY) (kE) Z
def Xz:Td:=fnF 1 1 jn
theorem ki:Q7 (JQ pW 41) ["_law_width"]:=fun _ _ _ _ h=>by obtain ⟨v0,rfl⟩:=jLO h;rfl
theorem jDU (ok:c.Ok) (B:Bi c) (X:Xs c) (hw:Wd c) (pc:Pc c pW 29 K C) (n_Page:OpN c false 3 (fun vs=>call (.ref C) vs) jGZ) (hf:QZ c (JQ pW 41)):Fn c false 4 "_law_page_by" (Xz) :=
 Xd (ps:=["_law_width"]) (nm:=["_law_width","_law_e"]) (f:=jn) 1 ok hf (dQ (jTB 1 ok X (dQ (JE (qHA ok pc n_Page (JA (JB 0) (JD)))) (dE)) (dQ (JE (Ze ok B.int_ vC (JA (qN (Yb ok B.isinstance X (JB 1)) (Yw (qDA ok B.isinstance X (JB 1)))) (JD)))) (dE))) (dE)) ki
def kz:Tf:=fun Wz Z=>qHV "WrapError" 2 (kQ (fun Z=>kF Z (kQ (fun Z=>kR Z (Zf Wz 0 (fun d Z=>JR (kC (kB JL (JH 1 Z) (kI 1)) (kC (kB JL (JH 1 Z) (kI 2)) (kN))) fun a1286=>qAW Wz (d :: a1286)) Z)) (kE)) (kE) (kT eqF (kB JL (JH 1 Z) (kI 0)) (kS [112,117,116]))) (kQ (fun Z=>kF Z (kQ (fun Z=>kR Z (Zf Wz 0 (fun d Z=>JR (kC (kB JL (JH 1 Z) (kI 1)) (kN)) fun a1298=>jNJ Wz (d :: a1298)) Z)) (kE)) (kE) (kT eqF (kB JL (JH 1 Z) (kI 0)) (kS [100,114,111,112]))) (kQ (fun Z=>kF Z (kQ (fun Z=>kR Z (Zf Wz 0 (fun d Z=>JR (kC (kB JL (JH 1 Z) (kI 1)) (kN)) fun a1310=>jES Wz (d :: a1310)) Z)) (kE)) (kE) (kT eqF (kB JL (JH 1 Z) (kI 0)) (kS [119,105,100,101,110]))) (kQ (fun Z=>kR Z (Zf Wz 0 (fun d _=>jNI Wz [d]) Z)) (kE))))) (kQ (fun Z=>kR Z (kK qS (kC (JH 2 Z) (kN)))) (kE)) Z
def qJ:Tf:=fun Wz Z=>kQ ((kz Wz)) (kE) Z
def Yy:Sg -> Td:=fun Wz=>fnF 2 1 (qJ Wz)
theorem xf:Q7 (JQ pW 43) ["_law_page","_law_deed"]:=fun _ _ _ _ h=>by obtain ⟨v0,v1,rfl⟩:=jFF h;rfl
theorem jME (ok:c.Ok) (B:Bi c) (X:Xs c) (hw:Wd c) (pc:Pc c pW 29 K C) (vAj:Fn c true 4 "_law_kind" qS) (vAk:Me c K C false 4 "drop" (jNJ c.sg)) (vAm:Me c K C false 4 "put" (qAW c.sg)) (vAp:Me c K C false 4 "undo" (jNI c.sg)) (vAq:Me c K C false 4 "widen" (jES c.sg)) (hf:QZ c (JQ pW 43)):Fn c false 5 "_law_told" (Yy c.sg) :=
 Xd (ps:=["_law_page","_law_deed"]) (nm:=["_law_page","_law_deed","_law_e"]) (f:=qJ c.sg) 1 ok hf (by
 refine dQ (f:=kz c.sg) ?_ ?_
 ·exact (jTB 2 ok X (dQ (JM (JJ op_eq (JG (JB 1) (JC)) (JT)) (dQ (JE (jZP (j:=0) hw pc rfl vAm (JA (JG (JB 1) (JC)) (JA (JG (JB 1) (JC)) (JD))))) (dE)) (dE)) (dQ (JM (JJ op_eq (JG (JB 1) (JC)) (JT)) (dQ (JE (jZP (j:=0) hw pc rfl vAk (JA (JG (JB 1) (JC)) (JD)))) (dE)) (dE)) (dQ (JM (JJ op_eq (JG (JB 1) (JC)) (JT)) (dQ (JE (jZP (j:=0) hw pc rfl vAq (JA (JG (JB 1) (JC)) (JD)))) (dE)) (dE)) (dQ (JE (XU (j:=0) hw pc rfl vAp)) (dE))))) (dQ (JE (JO ok vAj (JA (JB 2) (JD)))) (dE)))
 exact dE) xf
def J2:Tf:=fun Wz Z=>kF Z (kQ (fun Z=>kR Z (Zf Wz 0 (fun d _=>YD Wz [d]) Z)) (kE)) (kE) (kT eqF (JH 1 Z) (kI 0))
def QI:Tf:=fun Wz Z=>kF Z (kQ (fun Z=>kR Z (Zf Wz 0 (fun d _=>Qc Wz [d]) Z)) (kE)) (kE) (kT eqF (JH 1 Z) (kI 1))
def Qi:Tf:=fun Wz Z=>kF Z (kQ (fun Z=>kR Z (Zf Wz 0 (fun d _=>XW Wz [d]) Z)) (kE)) (kE) (kT eqF (JH 1 Z) (kI 2))
def Xc:Tf:=fun Wz Z=>kF Z (kQ (fun Z=>kR Z (Zf Wz 0 (fun d _=>QG Wz [d]) Z)) (kE)) (kE) (kT eqF (JH 1 Z) (kI 3))
def Yr:Tf:=fun Wz Z=>kR Z (Zf Wz 0 (fun d _=>XX Wz [d]) Z)
def jB:Tf:=fun Wz Z=>kQ ((J2 Wz)) (kQ ((QI Wz)) (kQ ((Qi Wz)) (kQ ((Xc Wz)) (kQ ((Yr Wz)) (kE))))) Z
def XZ:Sg -> Td:=fun Wz=>fnF 2 0 (jB Wz)
theorem zX:Q7 (JQ pW 48) ["_law_page","_law_place"]:=fun _ _ _ _ h=>by obtain ⟨v0,v1,rfl⟩:=jFF h;rfl
theorem jBJ (ok:c.Ok) (B:Bi c) (hw:Wd c) (pc:Pc c pW 29 K C) (vAl:Me c K C false 7 "lines_now" (XX c.sg)) (vAn:Me c K C false 7 "starts_now" (QG c.sg)) (vAo:Me c K C false 7 "table_now" (XW c.sg)) (vAr:Me c K C false 7 "width_now" (YD c.sg)) (vAs:Me c K C false 7 "words_now" (Qc c.sg)) (hf:QZ c (JQ pW 48)):Fn c false 8 "_law_one_told" (XZ c.sg) :=
 Xd (ps:=["_law_page","_law_place"]) (nm:=["_law_page","_law_place"]) (f:=jB c.sg) 0 ok hf (by
 refine dQ (f:=J2 c.sg) ?_ ?_
 ·exact (JM (JJ op_eq (JB 1) (JC)) (dQ (JE (XU (j:=0) hw pc rfl vAr)) (dE)) (dE))
 refine dQ (f:=QI c.sg) ?_ ?_
 ·exact (JM (JJ op_eq (JB 1) (JC)) (dQ (JE (XU (j:=0) hw pc rfl vAs)) (dE)) (dE))
 refine dQ (f:=Qi c.sg) ?_ ?_
 ·exact (JM (JJ op_eq (JB 1) (JC)) (dQ (JE (XU (j:=0) hw pc rfl vAo)) (dE)) (dE))
 refine dQ (f:=Xc c.sg) ?_ ?_
 ·exact (JM (JJ op_eq (JB 1) (JC)) (dQ (JE (XU (j:=0) hw pc rfl vAn)) (dE)) (dE))
 refine dQ (f:=Yr c.sg) ?_ ?_
 ·exact (JE (XU (j:=0) hw pc rfl vAl))
 exact dE) zX
def Yu:Tf:=fun Wz Z=>kA [] 2 Z (kK J3 (kC (some (.ok (.none,2))) (kC (some (.ok (.none,2))) (kC (some (.ok (.none,2))) (kC (some (.ok (.none,2))) (kC (some (.ok (.none,2))) (kN)))))))
def Yt:Tf:=fun Wz Z=>kA [] 3 Z (J3 [.list [.int 0,.int 1,.int 2,.int 3,.int 4],.list [.int 4,.int 3,.int 2,.int 1,.int 0],.list [.int 3,.int 1,.int 4,.int 0,.int 2],.list [.int 2,.int 4,.int 0,.int 3,.int 1],.list [.int 1,.int 0,.int 4,.int 2,.int 3]])
def Xh:Sg -> Tg:=fun Wz Z=>kK (XZ Wz) (kC (JH 0 Z) (kC (JH 4 Z) (kN)))
def Qn:Tf:=fun Wz Z=>kQ (fun Z=>jEX [0,4] 2 (Xh Wz) (fun Z=>JH 4 Z) Z) (kE) Z
def Ys:Tf:=fun Wz Z=>jLT [3,1] 4 (fun Z=>kK itF (kB JL (JH 3 Z) (kB jM (JH 1 Z) (kI 5)))) (Qn Wz) Z
def jw:Tf:=fun Wz Z=>jTX 2 Z
def jD:Tf:=fun Wz Z=>kQ ((Yu Wz)) (kQ ((Yt Wz)) (kQ ((Ys Wz)) (kQ ((jw Wz)) (kE)))) Z
def Xb:Sg -> Td:=fun Wz=>fnF 2 3 (jD Wz)
theorem zb:Q7 (JQ pW 49) ["_law_page","_law_way"]:=fun _ _ _ _ h=>by obtain ⟨v0,v1,rfl⟩:=jFF h;rfl
theorem jBM (ok:c.Ok) (B:Bi c) (vAM:Fn c false 8 "_law_one_told" (XZ c.sg)) (hf:QZ c (JQ pW 49)):Fn c false 9 "_law_all_told" (Xb c.sg) :=
 Xd (ps:=["_law_page","_law_way"]) (nm:=["_law_page","_law_way","_law_told_here","_law_orders","_law_place"]) (f:=jD c.sg) 3 ok hf (by
 refine dQ (f:=Yu c.sg) ?_ ?_
 ·exact (JI 2 (JV (JA (Qt) (JA (Qt) (JA (Qt) (JA (Qt) (JA (Qt) (JD))))))))
 refine dQ (f:=Yt c.sg) ?_ ?_
 ·exact (by refine JI (occ:=[]) (f:=fun _=>J3 [.list [.int 0,.int 1,.int 2,.int 3,.int 4],.list [.int 4,.int 3,.int 2,.int 1,.int 0],.list [.int 3,.int 1,.int 4,.int 0,.int 2],.list [.int 2,.int 4,.int 0,.int 3,.int 1],.list [.int 1,.int 0,.int 4,.int 2,.int 3]]) 3 ?h ?hx ?hk ?ho ?hs;(case hx=>rfl);(case hk=>kernel_rfl);(case ho=>kernel_rfl);(case hs=>intro _ _;rfl);(case h=>refine qCY ?_;kernel_rfl))
 refine dQ (f:=Ys c.sg) ?_ ?_
 ·exact (Ye 4 (zO (JG (JB 3) (JF Ju (JB 1) (JC)))) (dQ (qO 2 (JO ok vAM (JA (JB 0) (JA (JB 4) (JD)))) (JB 4)) (dE)))
 refine dQ (f:=jw c.sg) ?_ ?_
 ·exact (Qu 2)
 exact dE) zb
def jJ:Sg -> Tg:=fun Wz Z=>kK yW (kC (YB Wz 0 "kept" Z) (kC (YB Wz 0 "wide" Z) (kN)))
def xo:Te:=fun Wz Z=>jSH [0,0] 0 jJ Wz Z
def jER:Sg -> Tg:=fun Wz Z=>JH 1 Z
def qC:Te:=fun Wz Z=>jTW [1] 0 "kept" jER Wz Z
def jEQ:Sg -> Tg:=fun Wz Z=>JH 2 Z
def qB:Te:=fun Wz Z=>jTW [2] 0 "wide" jEQ Wz Z
noncomputable def jCO:Te:=fun Wz Z=>some (.next Z Wz)
def jCN:Te:=fun Wz Z=>Jn (qB Wz Z) jCO
def jCM:Te:=fun Wz Z=>Jn (qC Wz Z) jCN
def jOD:Te:=fun Wz Z=>Jn (xo Wz Z) jCM
def jMF:Te:=jOD
def ZL:Sg -> List D -> Option (D × Sg):=fnT 3 0 jMF
theorem jQF:jET (jFB pW 29 1) ["self","words","width"]:=fun _ _ _ _ _ h=>by obtain ⟨v0,v1,v2,rfl⟩:=qHY h;rfl
theorem vn (ok0:c0z.Ok) (B0:Bi c0z) (X0z:Xs c0z) (pc0:Pc c0z pW 29 K C) (mw0:Mw c0z) :MeT c0z K C false 1 "change" ZL :=
 jLJ (ps:=["self","words","width"]) (nm:=["self","words","width"]) ok0 pc0 (k0z:=1) (by decide) rfl (Zi (f:=jMF) (by
 refine JN (f:=xo) (g:=jCM) ?_ ?_
 ·exact qHI (j:=0) (f:=jJ) pc0 (fun c fm=>QF (JA (Jk (j:=0) fm.wd (fm.pc pc0) rfl) (JA (Jk (j:=0) fm.wd (fm.pc pc0) rfl) (JD))))
 refine JN (f:=qC) (g:=jCN) ?_ ?_
 ·exact jTC (j:=0) (f:=jER) pc0 (fun c fm=>JB 1)
 refine JN (f:=qB) (g:=jCO) ?_ ?_
 ·exact jTC (j:=0) (f:=jEQ) pc0 (fun c fm=>JB 2)
 exact Jw)) jQF
def jRX:Tf:=fun Wz Z=>kF Z (kQ (fun Z=>some (.raise "NoPlace")) (kE)) (kE) (kO (kT ltF (JH 1 Z) (kI 0)) (kO (kT gtF (JH 1 Z) (kK YA (kC (YB Wz 0 "kept" Z) (kN)))) (some (.ok false))))
def jIH:Te:=fun Wz Z=>QU Wz (jRX Wz Z)
def jRW:Tf:=fun Wz Z=>kF Z (kQ (fun Z=>some (.raise "NoWord")) (kE)) (kE) (kM (kV (kK jK (kC (JH 2 Z) (kN)))))
def jIG:Te:=fun Wz Z=>QU Wz (jRW Wz Z)
def jRV:Tf:=fun Wz Z=>kF Z (kQ (fun Z=>some (.raise "LongWord")) (kE)) (kE) (kT gtF (kK YA (kC (JH 2 Z) (kN))) (YB Wz 0 "wide" Z))
def jIF:Te:=fun Wz Z=>QU Wz (jRV Wz Z)
def jRU:Tf:=fun Wz Z=>kF Z (kQ (fun Z=>some (.raise "Full")) (kE)) (kE) (kT geF (kK YA (kC (YB Wz 0 "kept" Z) (kN))) (kI 120))
def jIE:Te:=fun Wz Z=>QU Wz (jRU Wz Z)
def jBT:Ti:=fun Wz Z=>jBE Wz 0 Z fun a=>Qd Wz (JX [0,2,0,0] Z) (fun Wz ds=>ZL Wz (a :: ds)) (kC (kB YC (kB YC (kL (some (.ok none)) (kK Xx (JH 1 Z)) (YB Wz 0 "kept" Z)) (kK J3 (kC (JH 2 Z) (kN)))) (kL (kK Xx (JH 1 Z)) (some (.ok none)) (YB Wz 0 "kept" Z))) (kC (YB Wz 0 "wide" Z) (kN)))
def jBZ:Te:=fun Wz Z=>(jBT Wz Z).map fun x=>.next x.2.2 x.2.1
noncomputable def jRN:Te:=fun Wz Z=>some (.next Z Wz)
def jRM:Te:=fun Wz Z=>Jn (jBZ Wz Z) jRN
def jRL:Te:=fun Wz Z=>Jn (jIE Wz Z) jRM
def jRK:Te:=fun Wz Z=>Jn (jIF Wz Z) jRL
def jRJ:Te:=fun Wz Z=>Jn (jIG Wz Z) jRK
def qAZ:Te:=fun Wz Z=>Jn (jIH Wz Z) jRJ
def qEO:Te:=qAZ
def jBB:Sg -> List D -> Option (D × Sg):=fnT 3 0 qEO
theorem jYZ (ok0:c0z.Ok) (B0:Bi c0z) (X0z:Xs c0z) (pc0:Pc c0z pW 29 K C) (mw0:Mw c0z) (vAb:∀ c,Fam c0z c -> Fn c false 1 "is_word" jK) (vAt:MeT c0z K C false 1 "change" ZL):MeT c0z K C false 2 "put" jBB :=
 jLJ (ps:=["self","at","word"]) (nm:=["self","at","word"]) ok0 pc0 (k0z:=2) (by decide) rfl (Zi (f:=qEO) (by
 refine JN (f:=jIH) (g:=jRJ) ?_ ?_
 ·exact Jg (f:=jRX) (fun c fm=>JM (QD (Js (JJ qj (JB 1) (JC)) (Js (JJ xp (JB 1) (Jc (fm.ok ok0) (fm.bi B0).len Ji (JA (Jk (j:=0) fm.wd (fm.pc pc0) rfl) (JD)))) (J5)))) (dQ (J4 (fm.ok ok0) (fm.xs X0z)) (dE)) (dE))
 refine JN (f:=jIG) (g:=jRK) ?_ ?_
 ·exact Jg (f:=jRW) (fun c fm=>JM (QY (QQ (JO (fm.ok ok0) (vAb c fm) (JA (JB 2) (JD))))) (dQ (J4 (fm.ok ok0) (fm.xs X0z)) (dE)) (dE))
 refine JN (f:=jIF) (g:=jRL) ?_ ?_
 ·exact Jg (f:=jRV) (fun c fm=>JM (JJ xp (Jc (fm.ok ok0) (fm.bi B0).len Ji (JA (JB 2) (JD))) (Jk (j:=0) fm.wd (fm.pc pc0) rfl)) (dQ (J4 (fm.ok ok0) (fm.xs X0z)) (dE)) (dE))
 refine JN (f:=jIE) (g:=jRM) ?_ ?_
 ·exact Jg (f:=jRU) (fun c fm=>JM (JJ jXS (Jc (fm.ok ok0) (fm.bi B0).len Ji (JA (Jk (j:=0) fm.wd (fm.pc pc0) rfl) (JD))) (jPY (fm.ok ok0) (fm.mw mw0))) (dQ (J4 (fm.ok ok0) (fm.xs X0z)) (dE)) (dE))
 refine JN (f:=jBZ) (g:=jRN) ?_ ?_
 ·refine jQD (f:=jBT) ?_
  exact jQB (j:=0) pc0 vAt (fun c fm=>JA (JF Ja (JF Ja (QV (Jk (j:=0) fm.wd (fm.pc pc0) rfl) QX (J0 (JB 1))) (JV (JA (JB 2) (JD)))) (QV (Jk (j:=0) fm.wd (fm.pc pc0) rfl) (J0 (JB 1)) QX)) (JA (Jk (j:=0) fm.wd (fm.pc pc0) rfl) (JD)))
 exact Jw)) jTE
def jLE:Tf:=fun Wz Z=>kF Z (kQ (fun Z=>some (.raise "NoPlace")) (kE)) (kE) (kO (kT ltF (JH 1 Z) (kI 0)) (kO (kT geF (JH 1 Z) (kK YA (kC (YB Wz 0 "kept" Z) (kN)))) (some (.ok false))))
def jDE:Te:=fun Wz Z=>QU Wz (jLE Wz Z)
def jLD:Tf:=fun Wz Z=>kA [0,1] 2 Z (kB JL (YB Wz 0 "kept" Z) (JH 1 Z))
def jDD:Te:=fun Wz Z=>QU Wz (jLD Wz Z)
def yY:Ti:=fun Wz Z=>jBE Wz 0 Z fun a=>Qd Wz (JX [0,0,0] Z) (fun Wz ds=>ZL Wz (a :: ds)) (kC (kB YC (kL (some (.ok none)) (kK Xx (JH 1 Z)) (YB Wz 0 "kept" Z)) (kL (kK Xx (kB YC (JH 1 Z) (kI 1))) (some (.ok none)) (YB Wz 0 "kept" Z))) (kC (YB Wz 0 "wide" Z) (kN)))
def zA:Te:=fun Wz Z=>(yY Wz Z).map fun x=>.next x.2.2 x.2.1
def jLC:Tf:=fun Wz Z=>jTX 2 Z
def jLG:Te:=fun Wz Z=>QU Wz (jLC Wz Z)
noncomputable def jKW:Te:=fun Wz Z=>some (.next Z Wz)
def jKV:Te:=fun Wz Z=>Jn (jLG Wz Z) jKW
def jKU:Te:=fun Wz Z=>Jn (zA Wz Z) jKV
def jKT:Te:=fun Wz Z=>Jn (jDD Wz Z) jKU
def jVV:Te:=fun Wz Z=>Jn (jDE Wz Z) jKT
def jZF:Te:=jVV
def jKK:Sg -> List D -> Option (D × Sg):=fnT 2 1 jZF
theorem qCQ (ok0:c0z.Ok) (B0:Bi c0z) (X0z:Xs c0z) (pc0:Pc c0z pW 29 K C) (mw0:Mw c0z) (vAt:MeT c0z K C false 1 "change" ZL):MeT c0z K C false 2 "drop" jKK :=
 jLJ (ps:=["self","at"]) (nm:=["self","at","word"]) ok0 pc0 (k0z:=3) (by decide) rfl (Zi (f:=jZF) (by
 refine JN (f:=jDE) (g:=jKT) ?_ ?_
 ·exact Jg (f:=jLE) (fun c fm=>JM (QD (Js (JJ qj (JB 1) (JC)) (Js (JJ jXS (JB 1) (Jc (fm.ok ok0) (fm.bi B0).len Ji (JA (Jk (j:=0) fm.wd (fm.pc pc0) rfl) (JD)))) (J5)))) (dQ (J4 (fm.ok ok0) (fm.xs X0z)) (dE)) (dE))
 refine JN (f:=jDD) (g:=jKU) ?_ ?_
 ·exact Jg (f:=jLD) (fun c fm=>JI 2 (JG (Jk (j:=0) fm.wd (fm.pc pc0) rfl) (JB 1)))
 refine JN (f:=zA) (g:=jKV) ?_ ?_
 ·refine jQD (f:=yY) ?_
  exact jQB (j:=0) pc0 vAt (fun c fm=>JA (JF Ja (QV (Jk (j:=0) fm.wd (fm.pc pc0) rfl) QX (J0 (JB 1))) (QV (Jk (j:=0) fm.wd (fm.pc pc0) rfl) (J0 (JF Ja (JB 1) (JC))) QX)) (JA (Jk (j:=0) fm.wd (fm.pc pc0) rfl) (JD)))
 refine JN (f:=jLG) (g:=jKW) ?_ ?_
 ·exact Jg (f:=jLC) (fun c fm=>Qu 2)
 exact Jw)) jMX
def zl:Tf:=fun Wz Z=>kY Z (kK Jt (kC (YB Wz 0 "kept" Z) (kC (JH 1 Z) (kN))))
def vc:Te:=fun Wz Z=>QU Wz (zl Wz Z)
def vU:Ti:=fun Wz Z=>jBE Wz 0 Z fun a=>Qd Wz (JX [0,1] Z) (fun Wz ds=>ZL Wz (a :: ds)) (kC (YB Wz 0 "kept" Z) (kC (JH 1 Z) (kN)))
def vZ:Te:=fun Wz Z=>(vU Wz Z).map fun x=>.next x.2.2 x.2.1
noncomputable def jGA:Te:=fun Wz Z=>some (.next Z Wz)
def jFZ:Te:=fun Wz Z=>Jn (vZ Wz Z) jGA
def jTM:Te:=fun Wz Z=>Jn (vc Wz Z) jFZ
def jSV:Te:=jTM
def jCJ:Sg -> List D -> Option (D × Sg):=fnT 2 0 jSV
theorem jYY (ok0:c0z.Ok) (B0:Bi c0z) (X0z:Xs c0z) (pc0:Pc c0z pW 29 K C) (mw0:Mw c0z) (vAg:∀ c,Fam c0z c -> Fn c false 3 "need_words" Jt) (vAt:MeT c0z K C false 3 "change" ZL):MeT c0z K C false 4 "widen" jCJ :=
 jLJ (ps:=["self","width"]) (nm:=["self","width"]) ok0 pc0 (k0z:=4) (by decide) rfl (Zi (f:=jSV) (by
 refine JN (f:=vc) (g:=jFZ) ?_ ?_
 ·exact Jg (f:=zl) (fun c fm=>jG (JO (fm.ok ok0) (vAg c fm) (JA (Jk (j:=0) fm.wd (fm.pc pc0) rfl) (JA (JB 1) (JD)))))
 refine JN (f:=vZ) (g:=jGA) ?_ ?_
 ·refine jQD (f:=vU) ?_
  exact jQB (j:=0) pc0 vAt (fun c fm=>JA (Jk (j:=0) fm.wd (fm.pc pc0) rfl) (JA (JB 1) (JD)))
 exact Jw)) jGW
def jLB:Tf:=fun Wz Z=>kF Z (kQ (fun Z=>some (.raise "NoWayBack")) (kE)) (kE) (jXQ Wz 0 Z)
def jDC:Te:=fun Wz Z=>QU Wz (jLB Wz Z)
def jCL:Ti:=fun Wz Z=>qNR Wz 0 Z
def y0:Te:=fun Wz Z=>(jCL Wz Z).map fun y=>.next (y.2.2.set 1 (some (y.1,JZ y.1))) y.2.1
def jNE:Sg -> Tg:=fun Wz Z=>kB JL (JH 1 Z) (kI 0)
def yz:Te:=fun Wz Z=>jTW [1] 0 "kept" jNE Wz Z
def jND:Sg -> Tg:=fun Wz Z=>kB JL (JH 1 Z) (kI 1)
def yy:Te:=fun Wz Z=>jTW [1] 0 "wide" jND Wz Z
noncomputable def jKS:Te:=fun Wz Z=>some (.next Z Wz)
def jKR:Te:=fun Wz Z=>Jn (yy Wz Z) jKS
def jKQ:Te:=fun Wz Z=>Jn (yz Wz Z) jKR
def jKP:Te:=fun Wz Z=>Jn (y0 Wz Z) jKQ
def jVU:Te:=fun Wz Z=>Jn (jDC Wz Z) jKP
def jZE:Te:=jVU
def jKJ:Sg -> List D -> Option (D × Sg):=fnT 1 1 jZE
theorem qCP (ok0:c0z.Ok) (B0:Bi c0z) (X0z:Xs c0z) (pc0:Pc c0z pW 29 K C) (mw0:Mw c0z) :MeT c0z K C false 1 "undo" jKJ :=
 jLJ (ps:=["self"]) (nm:=["self","ahead"]) ok0 pc0 (k0z:=5) (by decide) rfl (Zi (f:=jZE) (by
 refine JN (f:=jDC) (g:=jKP) ?_ ?_
 ·exact Jg (f:=jLB) (fun c fm=>JM (jML (j:=0) fm.wd (fm.pc pc0)) (dQ (J4 (fm.ok ok0) (fm.xs X0z)) (dE)) (dE))
 refine JN (f:=y0) (g:=jKQ) ?_ ?_
 ·refine jMR (f:=jCL) 1 ?_
  exact qKI (j:=0) pc0
 refine JN (f:=yz) (g:=jKR) ?_ ?_
 ·exact jTC (j:=0) (f:=jNE) pc0 (fun c fm=>JG (JB 1) (JC))
 refine JN (f:=yy) (g:=jKS) ?_ ?_
 ·exact jTC (j:=0) (f:=jND) pc0 (fun c fm=>JG (JB 1) (JC))
 exact Jw)) jMV
def Qb:Sg -> G -> Option (Bool × Sg × G):=fun Wz Z=>okY Wz Z (kT eqF (kB JL (JH 1 Z) (kI 0)) (kS [112,117,116]))
def Xq:Ti:=fun Wz Z=>jBE Wz 0 Z fun a=>Qd Wz (JX [1,1] Z) (fun Wz ds=>jBB Wz (a :: ds)) (kC (kB JL (JH 1 Z) (kI 1)) (kC (kB JL (JH 1 Z) (kI 2)) (kN)))
def xZ:Te:=fun Wz Z=>(Xq Wz Z).map fun x=>.ret x.1 x.2.1
noncomputable def xI:Te:=fun Wz Z=>some (.next Z Wz)
def xH:Te:=fun Wz Z=>Jn (xZ Wz Z) xI
noncomputable def xG:Te:=fun Wz Z=>some (.next Z Wz)
def Jr:Te:=fun Wz Z=>(Qb Wz Z).bind fun x=>if x.1 then xH x.2.1 x.2.2 else xG x.2.1 x.2.2
def Q8:Sg -> G -> Option (Bool × Sg × G):=fun Wz Z=>okY Wz Z (kT eqF (kB JL (JH 1 Z) (kI 0)) (kS [100,114,111,112]))
def Xp:Ti:=fun Wz Z=>jBE Wz 0 Z fun a=>Qd Wz (JX [1] Z) (fun Wz ds=>jKK Wz (a :: ds)) (kC (kB JL (JH 1 Z) (kI 1)) (kN))
def xY:Te:=fun Wz Z=>(Xp Wz Z).map fun x=>.ret x.1 x.2.1
noncomputable def xF:Te:=fun Wz Z=>some (.next Z Wz)
def xE:Te:=fun Wz Z=>Jn (xY Wz Z) xF
noncomputable def xD:Te:=fun Wz Z=>some (.next Z Wz)
def J7:Te:=fun Wz Z=>(Q8 Wz Z).bind fun x=>if x.1 then xE x.2.1 x.2.2 else xD x.2.1 x.2.2
def Xn:Sg -> G -> Option (Bool × Sg × G):=fun Wz Z=>okY Wz Z (kT eqF (kB JL (JH 1 Z) (kI 0)) (kS [119,105,100,101,110]))
def Xo:Ti:=fun Wz Z=>jBE Wz 0 Z fun a=>Qd Wz (JX [1] Z) (fun Wz ds=>jCJ Wz (a :: ds)) (kC (kB JL (JH 1 Z) (kI 1)) (kN))
def xX:Te:=fun Wz Z=>(Xo Wz Z).map fun x=>.ret x.1 x.2.1
noncomputable def xC:Te:=fun Wz Z=>some (.next Z Wz)
def xB:Te:=fun Wz Z=>Jn (xX Wz Z) xC
noncomputable def xA:Te:=fun Wz Z=>some (.next Z Wz)
def XC:Te:=fun Wz Z=>(Xn Wz Z).bind fun x=>if x.1 then xB x.2.1 x.2.2 else xA x.2.1 x.2.2
def Y2:Ti:=fun Wz Z=>jBE Wz 0 Z fun a=>(jKJ Wz [a]).map fun x=>(x.1,x.2,Z)
def ZA:Te:=fun Wz Z=>(Y2 Wz Z).map fun x=>.ret x.1 x.2.1
noncomputable def qo:Te:=fun Wz Z=>some (.next Z Wz)
def XO:Te:=fun Wz Z=>Jn (ZA Wz Z) qo
def Qg:Te:=fun Wz Z=>Jn (XC Wz Z) XO
def XN:Te:=fun Wz Z=>Jn (J7 Wz Z) Qg
def Zr:Te:=fun Wz Z=>Jn (Jr Wz Z) XN
noncomputable def Zq:Te:=fun Wz Z=>some (.next Z Wz)
def jCP:Te:=fun Wz Z=>Jn (Zr Wz Z) Zq
def jAX:Te:=jCP
def ja:Sg -> List D -> Option (D × Sg):=fnT 2 1 jAX
theorem jJK (ok0:c0z.Ok) (B0:Bi c0z) (X0z:Xs c0z) (pc0:Pc c0z pW 29 K C) (mw0:Mw c0z) (vAu:MeT c0z K C false 4 "drop" jKK) (vAv:MeT c0z K C false 4 "put" jBB) (vAw:MeT c0z K C false 4 "undo" jKJ) (vAx:MeT c0z K C false 4 "widen" jCJ) (hf:QZ c0z (JQ pW 43)):FnT c0z false 5 "_law_told" ja :=
 jST (ps:=["_law_page","_law_deed"]) (nm:=["_law_page","_law_deed","_law_e"]) ok0 hf (Zi (f:=jAX) (by
 refine JN (f:=Zr) (g:=Zq) ?_ ?_
 ·refine qKN (f:=Zr) ?_
  refine JN (f:=Jr) (g:=XN) ?_ ?_
  ·refine jMQ (f:=Qb) (g:=xH) (k:=xG) ?_ ?_ ?_
   ·exact jQA (fun c fm=>JJ op_eq (JG (JB 1) (JC)) (JT))
   ·refine JN (f:=xZ) (g:=xI) ?_ ?_
    ·refine jMP (f:=Xq) ?_
     exact jQB (j:=0) pc0 vAv (fun c fm=>JA (JG (JB 1) (JC)) (JA (JG (JB 1) (JC)) (JD)))
    exact Jw
   ·exact Jw
  refine JN (f:=J7) (g:=Qg) ?_ ?_
  ·refine jMQ (f:=Q8) (g:=xE) (k:=xD) ?_ ?_ ?_
   ·exact jQA (fun c fm=>JJ op_eq (JG (JB 1) (JC)) (JT))
   ·refine JN (f:=xY) (g:=xF) ?_ ?_
    ·refine jMP (f:=Xp) ?_
     exact jQB (j:=0) pc0 vAu (fun c fm=>JA (JG (JB 1) (JC)) (JD))
    exact Jw
   ·exact Jw
  refine JN (f:=XC) (g:=XO) ?_ ?_
  ·refine jMQ (f:=Xn) (g:=xB) (k:=xA) ?_ ?_ ?_
   ·exact jQA (fun c fm=>JJ op_eq (JG (JB 1) (JC)) (JT))
   ·refine JN (f:=xX) (g:=xC) ?_ ?_
    ·refine jMP (f:=Xo) ?_
     exact jQB (j:=0) pc0 vAx (fun c fm=>JA (JG (JB 1) (JC)) (JD))
    exact Jw
   ·exact Jw
  refine JN (f:=ZA) (g:=qo) ?_ ?_
  ·refine jMP (f:=Y2) ?_
   exact qKK (j:=0) pc0 vAw
  exact Jw
 exact Jw)) xf
def Z4:Tf:=fun Wz Z=>kF Z (kQ (fun Z=>kR Z (some (.ok (.bool false,2)))) (kE)) (kE) (kM (kV (kK Qa (kC (JH 0 Z) (kC (JH 1 Z) (kC (kB JL (JH 2 Z) (kI 2)) (kN)))))))
def YW:Te:=fun Wz Z=>QU Wz (Z4 Wz Z)
def Z3:Tf:=fun Wz Z=>kA [2] 4 Z (kB JL (JH 2 Z) (kI 3))
def YV:Te:=fun Wz Z=>QU Wz (Z3 Wz Z)
def Z2:Tf:=fun Wz Z=>kF Z (kQ (fun Z=>kR Z (some (.ok (.bool false,2)))) (kE)) (kE) (kO (kM (kV (kK Qw (kC (JH 4 Z) (kN))))) (kO (kT neF (JH 4 Z) (kK J1 (kC (JH 0 Z) (kC (JH 1 Z) (kC (kB JL (JH 2 Z) (kI 2)) (kN)))))) (some (.ok false))))
def YU:Te:=fun Wz Z=>QU Wz (Z2 Wz Z)
def Z1:Tf:=fun Wz Z=>kA [4,0] 5 Z (kB YC (kL (kK Xx (kI 1)) (some (.ok none)) (JH 4 Z)) (kK J3 (kC (kK YA (kC (JH 0 Z) (kN))) (kN))))
def YT:Te:=fun Wz Z=>QU Wz (Z1 Wz Z)
def vT:Sg -> Tg:=fun Wz Z=>kK yW (kC (kB JL (JH 2 Z) (kI 2)) (kC (kK jAT (kC (kB JL (JH 2 Z) (kI 2)) (kN))) (kN)))
def YS:Te:=fun Wz Z=>jPL [2,2] 3 vT Wz Z
def vS:Sg -> Tg:=fun Wz Z=>kK yW (kC (JH 4 Z) (kC (kK jAT (kC (JH 4 Z) (kN))) (kN)))
def YR:Te:=fun Wz Z=>jPL [4,4] 3 vS Wz Z
def vR:Sg -> Tg:=fun Wz Z=>kK yW (kC (kB JL (JH 2 Z) (kI 4)) (kC (kK jAT (kC (kB JL (JH 2 Z) (kI 4)) (kN))) (kN)))
def YQ:Te:=fun Wz Z=>jPL [2,2] 3 vR Wz Z
def XT:Sg -> Tg:=fun Wz Z=>kP jPE (kS [32]) (kC (kL (kK Xx (kB JL (JH 2 Z) (JH 0 Z))) (kK Xx (kB JL (JH 3 Z) (JH 0 Z))) (JH 1 Z)) (kN))
def Z0:Tf:=fun Wz Z=>kR Z (kK XY (kC (kB JL (JH 2 Z) (kI 4)) (kC (kK (jN (XT Wz) (fun _=>some (.ok true)) [0,4,5] Z) (kK jEU (kC (kK YA (kC (JH 4 Z) (kN))) (kN)))) (kN))))
def YO:Te:=fun Wz Z=>QU Wz (Z0 Wz Z)
noncomputable def qp:Te:=fun Wz Z=>some (.next Z Wz)
def XQ:Te:=fun Wz Z=>Jn (YO Wz Z) qp
def Zx:Te:=fun Wz Z=>Jn (YQ Wz Z) XQ
def Zw:Te:=fun Wz Z=>Jn (YR Wz Z) Zx
def Zv:Te:=fun Wz Z=>Jn (YS Wz Z) Zw
def Zu:Te:=fun Wz Z=>Jn (YT Wz Z) Zv
def Zt:Te:=fun Wz Z=>Jn (YU Wz Z) Zu
def Zs:Te:=fun Wz Z=>Jn (YV Wz Z) Zt
def jCQ:Te:=fun Wz Z=>Jn (YW Wz Z) Zs
def qK:Te:=jCQ
def Zl:Sg -> List D -> Option (D × Sg):=fnT 4 2 qK
theorem jEO:Q7 (JQ pW 50) ["_law_row","_law_width","_law_told_here","_law_held"]:=fun _ _ _ _ h=>by obtain ⟨v0,v1,v2,v3,rfl⟩:=qGC h;rfl
theorem jFK (ok0:c0z.Ok) (B0:Bi c0z) (X0z:Xs c0z) (pc0:Pc c0z pW 29 K C) (mw0:Mw c0z) (vAR:∀ c,Fam c0z c -> Fn c false 3 "_law_starts_by_table" J1) (vAS:∀ c,Fam c0z c -> Fn c false 3 "_law_table_right" Qa) (vAT:∀ c,Fam c0z c -> Fn c false 3 "_law_texts" XY) (vAW:∀ c,Fam c0z c -> Fn c false 3 "_law_wholes" Qw) (hf:QZ c0z (JQ pW 50)):FnT c0z false 4 "_law_shows" Zl :=
 jST (ps:=["_law_row","_law_width","_law_told_here","_law_held"]) (nm:=["_law_row","_law_width","_law_told_here","_law_held","_law_starts","_law_ends"]) ok0 hf (Zi (f:=qK) (by
 refine JN (f:=YW) (g:=Zs) ?_ ?_
 ·exact Jg (f:=Z4) (fun c fm=>JM (QY (QQ (JO (fm.ok ok0) (vAS c fm) (JA (JB 0) (JA (JB 1) (JA (JG (JB 2) (JC)) (JD))))))) (dQ (JE (Jj)) (dE)) (dE))
 refine JN (f:=YV) (g:=Zt) ?_ ?_
 ·exact Jg (f:=Z3) (fun c fm=>JI 4 (JG (JB 2) (JC)))
 refine JN (f:=YU) (g:=Zu) ?_ ?_
 ·exact Jg (f:=Z2) (fun c fm=>JM (QD (Js (QY (QQ (JO (fm.ok ok0) (vAW c fm) (JA (JB 4) (JD))))) (Js (JJ jDG (JB 4) (JO (fm.ok ok0) (vAR c fm) (JA (JB 0) (JA (JB 1) (JA (JG (JB 2) (JC)) (JD)))))) (J5)))) (dQ (JE (Jj)) (dE)) (dE))
 refine JN (f:=YT) (g:=Zv) ?_ ?_
 ·exact Jg (f:=Z1) (fun c fm=>JI 5 (JF Ja (QV (JB 4) (J0 (JC)) QX) (JV (JA (Jc (fm.ok ok0) (fm.bi B0).len Ji (JA (JB 0) (JD))) (JD)))))
 refine JN (f:=YS) (g:=Zw) ?_ ?_
 ·exact jJV (j:=3) (f:=vT) (fun c fm=>QF (JA (JG (JB 2) (JC)) (JA (Ze (fm.ok ok0) (fm.bi B0).list_ jDH (JA (JG (JB 2) (JC)) (JD))) (JD))))
 refine JN (f:=YR) (g:=Zx) ?_ ?_
 ·exact jJV (j:=3) (f:=vS) (fun c fm=>QF (JA (JB 4) (JA (Ze (fm.ok ok0) (fm.bi B0).list_ jDH (JA (JB 4) (JD))) (JD))))
 refine JN (f:=YQ) (g:=XQ) ?_ ?_
 ·exact jJV (j:=3) (f:=vR) (fun c fm=>QF (JA (JG (JB 2) (JC)) (JA (Ze (fm.ok ok0) (fm.bi B0).list_ jDH (JA (JG (JB 2) (JC)) (JD))) (JD))))
 refine JN (f:=YO) (g:=qp) ?_ ?_
 ·exact Jg (f:=Z0) (fun c fm=>JE (JO (fm.ok ok0) (vAT c fm) (JA (JG (JB 2) (JC)) (JA (Yc [0,4,5] (QW (fm.ok ok0) (fm.bi B0).range_ (JA (Jc (fm.ok ok0) (fm.bi B0).len Ji (JA (JB 4) (JD))) (JD))) Yd (jJU (JT) (JA (QV (JB 1) (J0 (JG (JB 2) (JB 0))) (J0 (JG (JB 3) (JB 0)))) (JD)))) (JD)))))
 exact Jw)) jEO
def X5:Tf:=fun Wz Z=>kA [3,1] 3 Z (kW (JH 3 Z) (kB ltF (kK YA (kC (JH 1 Z) (kN))) (kI 21)))
def Q3:Te:=fun Wz Z=>QU Wz (X5 Wz Z)
def qd:Tf:=fun Wz Z=>kA [2] 6 Z (kK J3 (kC (JH 2 Z) (kC (some (.ok (.none,2))) (kC (some (.ok (.none,2))) (kC (some (.ok (.none,2))) (kC (some (.ok (.none,2))) (kN)))))))
def ZX:Te:=fun Wz Z=>QU Wz (qd Wz Z)
def Q5:Sg -> Tg:=fun Wz Z=>Zf Wz 0 (fun d _=>Qc Wz [d]) Z
def qi:Sg -> Tg:=fun Wz Z=>kI 1
def Q4:Sg -> Tg:=fun Wz Z=>Zf Wz 0 (fun d _=>YD Wz [d]) Z
def qh:Sg -> Tg:=fun Wz Z=>kI 0
def Q1:Tf:=fun Wz Z=>kF Z (kQ (fun Z=>kA [0,5] 6 Z (kK (Xb Wz) (kC (JH 0 Z) (kC (JH 5 Z) (kN))))) (kE)) (kQ (fun Z=>kF Z (kQ (fun Z=>jEX [] 6 (Q5 Wz) (qi Wz) Z) (kQ (fun Z=>jEX [] 6 (Q4 Wz) (qh Wz) Z) (kE))) (kQ (fun Z=>kR Z (some (.ok (.bool true,2)))) (kE)) (kT eqF (kB jM (JH 5 Z) (kI 3)) (kI 1))) (kE)) (kV (JH 3 Z))
def Jz:Te:=fun Wz Z=>QU Wz (Q1 Wz Z)
def ZW:Tf:=fun Wz Z=>kF Z (kQ (fun Z=>kR Z (some (.ok (.bool false,2)))) (kE)) (kE) (kO (kM (kV (kK Qr (kC (kB JL (JH 6 Z) (kI 0)) (kN))))) (kO (kT neF (kB JL (JH 6 Z) (kI 0)) (JH 2 Z)) (kO (kM (kV (kK XY (kC (kB JL (JH 6 Z) (kI 1)) (kC (JH 1 Z) (kN)))))) (some (.ok false)))))
def X7:Te:=fun Wz Z=>QU Wz (ZW Wz Z)
def qg:Sg -> Tg:=fun Wz Z=>kK yW (kC (kB JL (JH 6 Z) (kI 1)) (kC (kK jAT (kC (kB JL (JH 6 Z) (kI 1)) (kN))) (kN)))
def X6:Te:=fun Wz Z=>jPL [6,6] 4 qg Wz Z
def qT:Ti:=fun Wz Z=>okX Wz (JX [3] Z) (kU qFT (JH 3 Z))
def X1:Ti:=fun Wz Z=>Qd Wz (JX [1,2,6,4] Z) Zl (kC (JH 1 Z) (kC (JH 2 Z) (kC (JH 6 Z) (kC (JH 4 Z) (kN)))))
def ZO:Ti:=fun Wz Z=>(qT Wz Z).bind fun x=>(Qp x.1).bind fun b=>if b then some x else X1 x.2.1 x.2.2
def Q2:Te:=fun Wz Z=>(ZO Wz Z).map fun x=>.ret x.1 x.2.1
noncomputable def qU:Te:=fun Wz Z=>some (.next Z Wz)
def Jy:Te:=fun Wz Z=>Jn (Q2 Wz Z) qU
def X3:Te:=fun Wz Z=>Jn (X6 Wz Z) Jy
def X2:Te:=fun Wz Z=>Jn (X7 Wz Z) X3
def QB:Te:=fun Wz Z=>Jn (Jz Wz Z) X2
def Qx:Te:=fun Wz Z=>Jn (ZX Wz Z) QB
def jBC:Te:=fun Wz Z=>Jn (Q3 Wz Z) Qx
def jq:Te:=jBC
def J9:Sg -> List D -> Option (D × Sg):=fnT 6 1 jq
theorem jBS:Q7 (JQ pW 51) ["_law_page","_law_row","_law_width","_law_fully","_law_held","_law_way"]:=fun _ _ _ _ h=>by obtain ⟨v0,v1,v2,v3,v4,v5,rfl⟩:=qOG h;rfl
theorem jDZ (ok0:c0z.Ok) (B0:Bi c0z) (X0z:Xs c0z) (pc0:Pc c0z pW 29 K C) (mw0:Mw c0z) (vAT:∀ c,Fam c0z c -> Fn c false 9 "_law_texts" XY) (vAV:∀ c,Fam c0z c -> Fn c false 9 "_law_whole" Qr) (vAD:∀ c,Fam c0z c -> Fn c false 9 "_law_all_told" (Xb c.sg)) (vAr:∀ c,Fam c0z c -> Me c K C false 9 "width_now" (YD c.sg)) (vAs:∀ c,Fam c0z c -> Me c K C false 9 "words_now" (Qc c.sg)) (t__law_shows:FnT c0z false 9 "_law_shows" Zl) (hf:QZ c0z (JQ pW 51)):FnT c0z false 10 "_law_stands" J9 :=
 jST (ps:=["_law_page","_law_row","_law_width","_law_fully","_law_held","_law_way"]) (nm:=["_law_page","_law_row","_law_width","_law_fully","_law_held","_law_way","_law_told_here"]) ok0 hf (Zi (f:=jq) (by
 refine JN (f:=Q3) (g:=Qx) ?_ ?_
 ·exact Jg (f:=X5) (fun c fm=>JI 3 (jMH (JB 3) (Yw (QN qj (Jc (fm.ok ok0) (fm.bi B0).len Ji (JA (JB 1) (JD))) (JC)))))
 refine JN (f:=ZX) (g:=QB) ?_ ?_
 ·exact Jg (f:=qd) (fun c fm=>JI 6 (JV (JA (JB 2) (JA (Qt) (JA (Qt) (JA (Qt) (JA (Qt) (JD))))))))
 refine JN (f:=Jz) (g:=X2) ?_ ?_
 ·exact Jg (f:=Q1) (fun c fm=>JM (QQ (JB 3)) (dQ (JI 6 (JO (fm.ok ok0) (vAD c fm) (JA (JB 0) (JA (JB 5) (JD))))) (dE)) (dQ (JM (JJ op_eq (JF Ju (JB 5) (JC)) (JC)) (dQ (qO 6 (XU (j:=0) fm.wd (fm.pc pc0) rfl (vAs c fm)) (JC)) (dQ (qO 6 (XU (j:=0) fm.wd (fm.pc pc0) rfl (vAr c fm)) (JC)) (dE))) (dQ (JE (Jj)) (dE))) (dE)))
 refine JN (f:=X7) (g:=X3) ?_ ?_
 ·exact Jg (f:=ZW) (fun c fm=>JM (QD (Js (QY (QQ (JO (fm.ok ok0) (vAV c fm) (JA (JG (JB 6) (JC)) (JD))))) (Js (JJ jDG (JG (JB 6) (JC)) (JB 2)) (Js (QY (QQ (JO (fm.ok ok0) (vAT c fm) (JA (JG (JB 6) (JC)) (JA (JB 1) (JD)))))) (J5))))) (dQ (JE (Jj)) (dE)) (dE))
 refine JN (f:=X6) (g:=Jy) ?_ ?_
 ·exact jJV (j:=4) (f:=qg) (fun c fm=>QF (JA (JG (JB 6) (JC)) (JA (Ze (fm.ok ok0) (fm.bi B0).list_ jDH (JA (JG (JB 6) (JC)) (JD))) (JD))))
 refine JN (f:=Q2) (g:=qU) ?_ ?_
 ·refine jMP (f:=ZO) ?_
  refine qNC (f:=qT) (g:=X1) ?_ ?_
  ·exact jEC (fun c fm=>Yn jSI (JB 3))
  ·refine qKJ ?_
   exact jQC ok0 t__law_shows (fun c fm=>JA (JB 1) (JA (JB 2) (JA (JB 6) (JA (JB 4) (JD)))))
 exact Jw)) jBS
def ji:Tf:=fun Wz Z=>kA [1,1,1,2] 3 Z (kK Yz (kC (kB JL (JH 1 Z) (kI 0)) (kC (kB JL (JH 1 Z) (kI 1)) (kC (kB JL (JH 1 Z) (kI 2)) (kC (JH 2 Z) (kN))))))
def ZB:Te:=fun Wz Z=>QU Wz (ji Wz Z)
def Y4:Ti:=fun Wz Z=>Qd Wz (JX [0,2] Z) ja (kC (JH 0 Z) (kC (JH 2 Z) (kN)))
def XA:Ti:=fun Wz Z=>okX Wz (JX [0,2] Z) (kK (Yy Wz) (kC (JH 0 Z) (kC (JH 2 Z) (kN))))
def Y3:Ti:=fun Wz Z=>(XA Wz Z).or (Y4 Wz Z)
def ZC:Sg -> G -> Option (R (List D)):=fun Wz Z=>kC (kB JL (JH 1 Z) (kI 0)) (kC (JH 2 Z) (kC (JH 3 Z) (kN)))
def Q9:Ti:=fun Wz Z=>(Y3 Wz Z).bind fun x=>okX x.2.1 (JX [1,2,3] x.2.2) (JR (ZC x.2.1 x.2.2) fun ds=>QP (x.1 :: ds))
def Y1:Sg -> G -> Option (Bool × Sg × G):=fun Wz Z=>(Q9 Wz Z).bind fun x=>(Qp x.1).map fun b=>(b,x.2)
def Y0:Sg -> G -> Option (Bool × Sg × G):=fun Wz Z=>(Y1 Wz Z).map fun x=>(!x.1,x.2)
def xW:Tf:=fun Wz Z=>kR Z (some (.ok (.none,2)))
def xc:Te:=fun Wz Z=>QU Wz (xW Wz Z)
noncomputable def xN:Te:=fun Wz Z=>some (.next Z Wz)
def xM:Te:=fun Wz Z=>Jn (xc Wz Z) xN
noncomputable def xL:Te:=fun Wz Z=>some (.next Z Wz)
def XE:Te:=fun Wz Z=>(Y0 Wz Z).bind fun x=>if x.1 then xM x.2.1 x.2.2 else xL x.2.1 x.2.2
def Y9:Tf:=fun Wz Z=>kF Z (kQ (fun Z=>kR Z (kK ZN (kC (kB JL (JH 1 Z) (kI 0)) (kC (kB JL (JH 1 Z) (kI 1)) (kC (kB JL (JH 1 Z) (kI 2)) (kC (JH 2 Z) (kN))))))) (kE)) (kE) (kT eqF (JH 3 Z) (kI 0))
def XD:Te:=fun Wz Z=>QU Wz (Y9 Wz Z)
def xV:Tf:=fun Wz Z=>jTX 1 Z
def xb:Te:=fun Wz Z=>QU Wz (xV Wz Z)
noncomputable def xK:Te:=fun Wz Z=>some (.next Z Wz)
def jc:Te:=fun Wz Z=>Jn (xb Wz Z) xK
def XB:Te:=fun Wz Z=>Jn (XD Wz Z) jc
def xJ:Te:=fun Wz Z=>Jn (XE Wz Z) XB
def jEV:Te:=fun Wz Z=>Jn (ZB Wz Z) xJ
def jAY:Te:=jEV
def jb:Sg -> List D -> Option (D × Sg):=fnT 3 1 jAY
theorem jFU:Q7 (JQ pW 55) ["_law_page","_law_now","_law_deed"]:=fun _ _ _ _ h=>by obtain ⟨v0,v1,v2,rfl⟩:=qHY h;rfl
theorem jJL (ok0:c0z.Ok) (B0:Bi c0z) (X0z:Xs c0z) (pc0:Pc c0z pW 29 K C) (mw0:Mw c0z) (vAB:∀ c,Fam c0z c -> Fn c false 5 "_law_after" ZN) (vAE:∀ c,Fam c0z c -> Fn c false 5 "_law_answered" QP) (vAI:∀ c,Fam c0z c -> Fn c false 5 "_law_due" Yz) (vAU:∀ c,Fam c0z c -> Fn c false 5 "_law_told" (Yy c.sg)) (t__law_told:FnT c0z false 5 "_law_told" ja) (vAA:qNN c0z "_law_answered") (hf:QZ c0z (JQ pW 55)):FnT c0z false 6 "_law_step" jb :=
 jST (ps:=["_law_page","_law_now","_law_deed"]) (nm:=["_law_page","_law_now","_law_deed","_law_due_here"]) ok0 hf (Zi (f:=jAY) (by
 refine JN (f:=ZB) (g:=xJ) ?_ ?_
 ·exact Jg (f:=ji) (fun c fm=>JI 3 (JO (fm.ok ok0) (vAI c fm) (JA (JG (JB 1) (JC)) (JA (JG (JB 1) (JC)) (JA (JG (JB 1) (JC)) (JA (JB 2) (JD)))))))
 refine JN (f:=XE) (g:=XB) ?_ ?_
 ·refine jMQ (f:=Y0) (g:=xM) (k:=xL) ?_ ?_ ?_
  ·refine jMO (f:=Y1) ?_
   refine jMN (f:=Q9) ?_
   refine qDH (f1z:=Y3) (g:=ZC) ok0 vAA vAE ?_ ?_
   ·refine qKL (f:=XA) (g:=Y4) ?_ ?_
    ·exact jEC (fun c fm=>JO (fm.ok ok0) (vAU c fm) (JA (JB 0) (JA (JB 2) (JD))))
    ·exact jQC ok0 t__law_told (fun c fm=>JA (JB 0) (JA (JB 2) (JD)))
   ·exact (fun c fm=>JA (JG (JB 1) (JC)) (JA (JB 2) (JA (JB 3) (JD))))
  ·refine JN (f:=xc) (g:=xN) ?_ ?_
   ·exact Jg (f:=xW) (fun c fm=>JE (Qt))
   exact Jw
  ·exact Jw
 refine JN (f:=XD) (g:=jc) ?_ ?_
 ·exact Jg (f:=Y9) (fun c fm=>JM (JJ op_eq (JB 3) (JC)) (dQ (JE (JO (fm.ok ok0) (vAB c fm) (JA (JG (JB 1) (JC)) (JA (JG (JB 1) (JC)) (JA (JG (JB 1) (JC)) (JA (JB 2) (JD))))))) (dE)) (dE))
 refine JN (f:=xb) (g:=xK) ?_ ?_
 ·exact Jg (f:=xV) (fun c fm=>Qu 1)
 exact Jw)) jFU
def jOQ:Tf:=fun Wz Z=>kA [0] 1 Z (kK QM (kC (kK JY (kC (JH 0 Z) (kC (kI 0) (kN)))) (kN)))
def zq:Te:=fun Wz Z=>QU Wz (jOQ Wz Z)
def jYW:Sg -> G -> Option (R (List D)):=fun Wz Z=>kC (JH 1 Z) (kN)
def jXE:Sg -> G -> (OT -> Prop) -> Prop:=fun Wz Z U=>∃ ds,jYW Wz Z = some (.ok ds) /\ jXY Wz ds fun d W'=>U (.next ((JX [1] Z).set 2 (some (d,JZ d))) W')
def jOP:Tf:=fun Wz Z=>kA [0,0] 3 Z (kK Xz (kC (kU jLI (kB jM (kK JY (kC (JH 0 Z) (kC (kI 1) (kN)))) (kB JL (kK J3 (kC (kI 3) (kC (kB jOU (kI 10) (kI 30)) (kN)))) (kB jM (kK JY (kC (JH 0 Z) (kC (kI 1) (kN)))) (kI 2))))) (kN)))
def jDB:Te:=fun Wz Z=>QU Wz (jOP Wz Z)
def jOO:Tf:=fun Wz Z=>kF Z (kQ (fun Z=>kR Z (some (.ok (.bool false,2)))) (kE)) (kE) (kO (kM (kV (kK (qCG Wz) (JH 2 Z)))) (kO (kT neF (JH 3 Z) (kI 1)) (kO (kT neF (kI 120) (kI 120)) (some (.ok false)))))
def jDA:Te:=fun Wz Z=>QU Wz (jOO Wz Z)
def jWV:Tf:=fun Wz Z=>kA [1] 4 Z (kK yW (kC (kK J3 (kN)) (kC (JH 1 Z) (kC (kK J3 (kN)) (kN)))))
def jIC:Te:=fun Wz Z=>QU Wz (jWV Wz Z)
def jWU:Tf:=fun Wz Z=>kA [] 5 Z (some (.ok (.bool false,2)))
def jIB:Te:=fun Wz Z=>QU Wz (jWU Wz Z)
def jXD:Sg -> G -> (OT -> Prop) -> Prop:=fun Wz Z U=>∀ H,Wz.hd H = none -> Wz.pg H = none -> U (.next (Z.set 6 (some (.ob H,2))) (Xr Wz H []))
def jHH:Ti:=fun Wz Z=>okX Wz (JX [0] Z) (kL (kK Xx (kI 2)) (some (.ok none)) (JH 0 Z))
def jON:Tf:=fun Wz Z=>kA [7,4,4,5] 8 Z (kK Xa (kC (JH 7 Z) (kC (kK YA (kC (kB JL (JH 4 Z) (kI 0)) (kN))) (kC (kB JL (JH 4 Z) (kI 1)) (kC (JH 5 Z) (kN))))))
def jIA:Te:=fun Wz Z=>QU Wz (jON Wz Z)
def jHT:Tf:=fun Wz Z=>kA [5,8] 5 Z (kW (JH 5 Z) (kB gtF (kK YA (kC (JH 8 Z) (kN))) (kI 1)))
def jCZ:Te:=fun Wz Z=>QU Wz (jHT Wz Z)
def jVP:Ti:=fun Wz Z=>okX Wz (JX [8] Z) (JH 8 Z)
def jCK:Ti:=fun Wz Z=>okX Wz (JX [9,4,4,4,9,9] Z) (kB YC (kK J3 (kC (JH 9 Z) (kN))) (kK Q6 (kC (kK Yz (kC (kB JL (JH 4 Z) (kI 0)) (kC (kB JL (JH 4 Z) (kI 1)) (kC (kB JL (JH 4 Z) (kI 2)) (kC (JH 9 Z) (kN)))))) (kC (JH 9 Z) (kN)))))
def jNX:Ti:=fun Wz Z=>Qd Wz (JX [2,4,10] Z) jb (kC (JH 2 Z) (kC (JH 4 Z) (kC (JH 10 Z) (kN))))
def jHZ:Te:=fun Wz Z=>(jNX Wz Z).map fun y=>.next (y.2.2.set 4 (some (y.1,JZ y.1))) y.2.1
def jWT:Tf:=fun Wz Z=>kF Z (kQ (fun Z=>kR Z (some (.ok (.bool false,2)))) (kE)) (kE) (kT isF (JH 4 Z) (some (.ok (.none,2))))
def jOS:Te:=fun Wz Z=>QU Wz (jWT Wz Z)
noncomputable def jOC:Te:=fun Wz Z=>some (.next Z Wz)
def jOB:Te:=fun Wz Z=>Jn (jOS Wz Z) jOC
def jHL:Te:=fun Wz Z=>Jn (jHZ Wz Z) jOB
def jSF:Te:=fun Wz Z=>(jCK Wz Z).bind fun y=>(itT y.1).bind fun xs=>jDL jHL 10 xs y.2.1 y.2.2
noncomputable def jOA:Te:=fun Wz Z=>some (.next Z Wz)
def jHK:Te:=fun Wz Z=>Jn (jSF Wz Z) jOA
def jID:Te:=fun Wz Z=>(jVP Wz Z).bind fun y=>(itT y.1).bind fun xs=>jDL jHK 9 xs y.2.1 y.2.2
def jHG:Ti:=fun Wz Z=>Qd Wz (JX [2,4,4,4,6,7] Z) J9 (kC (JH 2 Z) (kC (kB JL (JH 4 Z) (kI 0)) (kC (kB JL (JH 4 Z) (kI 1)) (kC (kB eqF (kB jM (kK YA (kC (kB JL (JH 4 Z) (kI 2)) (kN))) (kI 16)) (kI 9)) (kC (JH 6 Z) (kC (JH 7 Z) (kN)))))))
def jNV:Sg -> G -> Option (Bool × Sg × G):=fun Wz Z=>(jHG Wz Z).bind fun x=>(Qp x.1).map fun b=>(b,x.2)
def jNU:Sg -> G -> Option (Bool × Sg × G):=fun Wz Z=>(jNV Wz Z).map fun x=>(!x.1,x.2)
def jWS:Tf:=fun Wz Z=>kR Z (some (.ok (.bool false,2)))
def jSE:Te:=fun Wz Z=>QU Wz (jWS Wz Z)
noncomputable def jVT:Te:=fun Wz Z=>some (.next Z Wz)
def jVS:Te:=fun Wz Z=>Jn (jSE Wz Z) jVT
noncomputable def jVR:Te:=fun Wz Z=>some (.next Z Wz)
def jBY:Te:=fun Wz Z=>(jNU Wz Z).bind fun x=>if x.1 then jVS x.2.1 x.2.2 else jVR x.2.1 x.2.2
def jDR:Sg -> G -> Option (R (List D)):=fun Wz Z=>kX (Zf Wz 2 (fun d _=>Qc Wz [d]) Z) (kX (Zf Wz 2 (fun d _=>XW Wz [d]) Z) (kX (Zf Wz 2 (fun d _=>QG Wz [d]) Z) (kX (Zf Wz 2 (fun d _=>XX Wz [d]) Z) (some (.ok [])))))
def yn:Tf:=fun Wz Z=>kF Z (kQ (fun Z=>jVE 11 (jDR Wz) Z) (kE)) (kE) (kD (kT eqF (kB jM (kB zi (JH 7 Z) (kI 5)) (kI 8)) (kI 1)) (kD (kT ltF (kK YA (kC (kB JL (JH 4 Z) (kI 0)) (kN))) (kI 21)) (some (.ok true))))
def vY:Te:=fun Wz Z=>QU Wz (yn Wz Z)
noncomputable def jNZ:Te:=fun Wz Z=>some (.next Z Wz)
def jHP:Te:=fun Wz Z=>Jn (vY Wz Z) jNZ
def jHO:Te:=fun Wz Z=>Jn (jBY Wz Z) jHP
def jHN:Te:=fun Wz Z=>Jn (jID Wz Z) jHO
def jHM:Te:=fun Wz Z=>Jn (jCZ Wz Z) jHN
def yZ:Te:=fun Wz Z=>Jn (jIA Wz Z) jHM
def yx:Te:=fun Wz Z=>(jHH Wz Z).bind fun y=>(itT y.1).bind fun xs=>jDL yZ 7 xs y.2.1 y.2.2
def jYV:Sg -> G -> Option (R (List D)):=fun Wz Z=>kX (Zf Wz 2 (fun d _=>Qc Wz [d]) Z) (kX (Zf Wz 2 (fun d _=>XW Wz [d]) Z) (kX (Zf Wz 2 (fun d _=>QG Wz [d]) Z) (kX (Zf Wz 2 (fun d _=>XX Wz [d]) Z) (some (.ok [])))))
def jHU:Tf:=fun Wz Z=>jVE 11 (jYV Wz) Z
def yv:Te:=fun Wz Z=>QU Wz (jHU Wz Z)
def jPN:Sg -> G -> Option (R (List D)):=fun Wz Z=>kC (kB YC (kI 1) (kB jM (kK JY (kC (JH 0 Z) (kC (kI 1) (kN)))) (kI 9))) (kN)
def jXC:Sg -> G -> (OT -> Prop) -> Prop:=fun Wz Z U=>∃ ds,jPN Wz Z = some (.ok ds) /\ jXY Wz ds fun d W'=>U (.next ((JX [0] Z).set 12 (some (d,JZ d))) W')
def jHF:Ti:=fun Wz Z=>Qd Wz (JX [12,0,6,1] Z) J9 (kC (JH 12 Z) (kC (kK J3 (kN)) (kC (kB YC (kI 1) (kB jM (kK JY (kC (JH 0 Z) (kC (kI 1) (kN)))) (kI 9))) (kC (some (.ok (.bool true,2))) (kC (JH 6 Z) (kC (JH 1 Z) (kN)))))))
def jNT:Sg -> G -> Option (Bool × Sg × G):=fun Wz Z=>(jHF Wz Z).bind fun x=>(Qp x.1).map fun b=>(b,x.2)
def jHC:Sg -> G -> Option (Bool × Sg × G):=fun Wz Z=>(jNT Wz Z).map fun x=>(!x.1,x.2)
def jNW:Ti:=fun Wz Z=>jBE Wz 12 Z fun a=>Qd Wz (JX [] Z) (fun Wz ds=>jBB Wz (a :: ds)) (kC (kI 0) (kC (kS [97]) (kN)))
def jHB:Sg -> G -> Option (Bool × Sg × G):=fun Wz Z=>(jNW Wz Z).bind fun x=>qNE qJW x
noncomputable def jVO:Sg -> G -> Option (Bool × Sg × G):=fun Wz Z=>some (false,Wz,Z)
def jHA:Sg -> G -> Option (Bool × Sg × G):=fun Wz Z=>(jHB Wz Z).bind fun x=>if x.1 then some (true,x.2) else jVO x.2.1 x.2.2
def jNO:Sg -> G -> Option (Bool × Sg × G):=fun Wz Z=>(jHC Wz Z).bind fun x=>if x.1 then some (true,x.2) else jHA x.2.1 x.2.2
def jRT:Tf:=fun Wz Z=>kR Z (some (.ok (.bool false,2)))
def jSD:Te:=fun Wz Z=>QU Wz (jRT Wz Z)
noncomputable def jRI:Te:=fun Wz Z=>some (.next Z Wz)
def jRH:Te:=fun Wz Z=>Jn (jSD Wz Z) jRI
noncomputable def jRG:Te:=fun Wz Z=>some (.next Z Wz)
def yu:Te:=fun Wz Z=>(jNO Wz Z).bind fun x=>if x.1 then jRH x.2.1 x.2.2 else jRG x.2.1 x.2.2
def jHE:Ti:=fun Wz Z=>Qd Wz (JX [12,0,6,1] Z) J9 (kC (JH 12 Z) (kC (kK J3 (kC (kS [97]) (kN))) (kC (kB YC (kI 1) (kB jM (kK JY (kC (JH 0 Z) (kC (kI 1) (kN)))) (kI 9))) (kC (some (.ok (.bool true,2))) (kC (JH 6 Z) (kC (JH 1 Z) (kN)))))))
def jNS:Sg -> G -> Option (Bool × Sg × G):=fun Wz Z=>(jHE Wz Z).bind fun x=>(Qp x.1).map fun b=>(b,x.2)
def jNR:Sg -> G -> Option (Bool × Sg × G):=fun Wz Z=>(jNS Wz Z).map fun x=>(!x.1,x.2)
def jRS:Tf:=fun Wz Z=>kR Z (some (.ok (.bool false,2)))
def jSC:Te:=fun Wz Z=>QU Wz (jRS Wz Z)
noncomputable def jRF:Te:=fun Wz Z=>some (.next Z Wz)
def jRE:Te:=fun Wz Z=>Jn (jSC Wz Z) jRF
noncomputable def jRD:Te:=fun Wz Z=>some (.next Z Wz)
def yt:Te:=fun Wz Z=>(jNR Wz Z).bind fun x=>if x.1 then jRE x.2.1 x.2.2 else jRD x.2.1 x.2.2
def jHD:Ti:=fun Wz Z=>Qd Wz (JX [2,4,4,6,0] Z) J9 (kC (JH 2 Z) (kC (kB JL (JH 4 Z) (kI 0)) (kC (kB JL (JH 4 Z) (kI 1)) (kC (some (.ok (.bool true,2))) (kC (JH 6 Z) (kC (kK JY (kC (JH 0 Z) (kC (kI 1) (kN)))) (kN)))))))
def jNQ:Sg -> G -> Option (Bool × Sg × G):=fun Wz Z=>(jHD Wz Z).bind fun x=>(Qp x.1).map fun b=>(b,x.2)
def jNP:Sg -> G -> Option (Bool × Sg × G):=fun Wz Z=>(jNQ Wz Z).map fun x=>(!x.1,x.2)
def jRR:Tf:=fun Wz Z=>kR Z (some (.ok (.bool false,2)))
def jSB:Te:=fun Wz Z=>QU Wz (jRR Wz Z)
noncomputable def jRC:Te:=fun Wz Z=>some (.next Z Wz)
def jRB:Te:=fun Wz Z=>Jn (jSB Wz Z) jRC
noncomputable def jRA:Te:=fun Wz Z=>some (.next Z Wz)
def yr:Te:=fun Wz Z=>(jNP Wz Z).bind fun x=>if x.1 then jRB x.2.1 x.2.2 else jRA x.2.1 x.2.2
def jZM:Tg:=fun Z=>kB JL (JH 0 Z) (kI 0)
def jZL:Tg:=fun Z=>kB JL (JH 0 Z) (kI 1)
def jBW:Th:=fun Z=>kR Z (kB eqF (kK (jN jZM (fun _=>some (.ok true)) [] Z) (kK itF (JH 6 Z))) (kK (jN jZL (fun _=>some (.ok true)) [] Z) (kK itF (JH 6 Z))))
def zp:Sg -> G -> (OT -> Prop) -> Prop:=fun Wz Z U=>∃ H la xs d lv,Z[6]? = some (some (.ob H,la)) /\ Wz.hd H = some xs /\ d.flat = true /\ jBW ((JX (List.range 13) Z).set 6 (some (.list xs,0))) = some (.ret d lv) /\ (∃ d' W',OT.ret d Wz = .ret d' W') /\ U (.ret d Wz)
def jKG:Sg -> G -> (OT -> Prop) -> Prop:=jOM (ofF yr) zp
def jKH:Sg -> G -> (OT -> Prop) -> Prop:=jOM (ofF yt) jKG
def jKI:Sg -> G -> (OT -> Prop) -> Prop:=jOM (ofF yu) jKH
def jQP:Sg -> G -> (OT -> Prop) -> Prop:=jOM jXC jKI
def jQQ:Sg -> G -> (OT -> Prop) -> Prop:=jOM (ofF yv) jQP
def jQR:Sg -> G -> (OT -> Prop) -> Prop:=jOM (ofF yx) jQQ
def jQS:Sg -> G -> (OT -> Prop) -> Prop:=jOM jXD jQR
def jQT:Sg -> G -> (OT -> Prop) -> Prop:=jOM (ofF jIB) jQS
def jQU:Sg -> G -> (OT -> Prop) -> Prop:=jOM (ofF jIC) jQT
def jQV:Sg -> G -> (OT -> Prop) -> Prop:=jOM (ofF jDA) jQU
def jQW:Sg -> G -> (OT -> Prop) -> Prop:=jOM (ofF jDB) jQV
def jQX:Sg -> G -> (OT -> Prop) -> Prop:=jOM jXE jQW
def qHR:Sg -> G -> (OT -> Prop) -> Prop:=jOM (ofF zq) jQX
def qHS:Sg -> G -> (OT -> Prop) -> Prop:=qHR
theorem qDD (ok0:c0z.Ok) (B0:Bi c0z) (X0z:Xs c0z) (pc0:Pc c0z pW 29 K C) (mw0:Mw c0z) (vAF:∀ c,Fam c0z c -> Fn c false 10 "_law_cell_at" JY) (vAH:∀ c,Fam c0z c -> Fn c false 10 "_law_deeds_by" Xa) (vAI:∀ c,Fam c0z c -> Fn c false 10 "_law_due" Yz) (vAL:∀ c,Fam c0z c -> Fn c false 10 "_law_made_good" Q6) (vAN:∀ c,Fam c0z c -> Fn c false 10 "_law_page_by" Xz) (vAO:∀ c,Fam c0z c -> Fn c false 10 "_law_page_width" QM) (vAl:∀ c,Fam c0z c -> Me c K C false 10 "lines_now" (XX c.sg)) (vAn:∀ c,Fam c0z c -> Me c K C false 10 "starts_now" (QG c.sg)) (vAo:∀ c,Fam c0z c -> Me c K C false 10 "table_now" (XW c.sg)) (vAs:∀ c,Fam c0z c -> Me c K C false 10 "words_now" (Qc c.sg)) (t__law_stands:FnT c0z false 10 "_law_stands" J9) (t__law_step:FnT c0z false 10 "_law_step" jb) (vAv:MeT c0z K C false 10 "put" jBB) (w_Page:OpW c0z false 10 (fun vs=>call (.ref C) vs) jXY) (w_page_by:FnW c0z false 10 "_law_page_by" jXY):qAY c0z false 10 (JQ pW 57).scope ["_law_script","_law_width","_law_page","_law_low","_law_now","_law_filled","_law_held","_law_cell","_law_deeds","_law_deed","_law_one","_law_found","_law_other"] (JQ pW 57).body qHS :=
 by
 refine Xg (R1:=(ofF zq)) (R2:=jQX) ?_ ?_
 ·refine jFM (f:=zq) ?_
  exact Jg (f:=jOQ) (fun c fm=>JI 1 (JO (fm.ok ok0) (vAO c fm) (JA (JO (fm.ok ok0) (vAF c fm) (JA (JB 0) (JA (JC) (JD)))) (JD))))
 refine Xg (R1:=jXE) (R2:=jQW) ?_ ?_
 ·exact qKM (g:=jYW) 2 ok0 w_page_by (fun c fm=>JA (JB 1) (JD))
 refine Xg (R1:=(ofF jDB)) (R2:=jQV) ?_ ?_
 ·refine jFM (f:=jDB) ?_
  exact Jg (f:=jOP) (fun c fm=>JI 3 (JO (fm.ok ok0) (vAN c fm) (JA (Yn jT (JF Ju (JO (fm.ok ok0) (vAF c fm) (JA (JB 0) (JA (JC) (JD)))) (JG (JV (JA (JC) (JA (JF jAQ (JC) (JC)) (JD)))) (JF Ju (JO (fm.ok ok0) (vAF c fm) (JA (JB 0) (JA (JC) (JD)))) (JC))))) (JD))))
 refine Xg (R1:=(ofF jDA)) (R2:=jQU) ?_ ?_
 ·refine jFM (f:=jDA) ?_
  exact Jg (f:=jOO) (fun c fm=>JM (QD (Js (QY (QQ (qDB (fm.ok ok0) (fm.bi B0).isinstance fm.wd (fm.pc pc0) (JB 2)))) (Js (JJ jDG (JB 3) (JC)) (Js (JJ jDG (jPY (fm.ok ok0) (fm.mw mw0)) (JC)) (J5))))) (dQ (JE (Jj)) (dE)) (dE))
 refine Xg (R1:=(ofF jIC)) (R2:=jQT) ?_ ?_
 ·refine jFM (f:=jIC) ?_
  exact Jg (f:=jWV) (fun c fm=>JI 4 (QF (JA (JV (JD)) (JA (JB 1) (JA (JV (JD)) (JD))))))
 refine Xg (R1:=(ofF jIB)) (R2:=jQS) ?_ ?_
 ·refine jFM (f:=jIB) ?_
  exact Jg (f:=jWU) (fun c fm=>JI 5 (Jj))
 refine Xg (R1:=jXD) (R2:=jQR) ?_ ?_
 ·exact qHH 6
 refine Xg (R1:=(ofF yx)) (R2:=jQQ) ?_ ?_
 ·refine jFM (f:=yx) ?_
  refine jZV (f:=jHH) (fB:=yZ) 7 ?_ ?_
  ·exact jEC (fun c fm=>QV (JB 0) (J0 (JC)) QX)
  ·refine JN (f:=jIA) (g:=jHM) ?_ ?_
   ·exact Jg (f:=jON) (fun c fm=>JI 8 (JO (fm.ok ok0) (vAH c fm) (JA (JB 7) (JA (Jc (fm.ok ok0) (fm.bi B0).len Ji (JA (JG (JB 4) (JC)) (JD))) (JA (JG (JB 4) (JC)) (JA (JB 5) (JD)))))))
   refine JN (f:=jCZ) (g:=jHN) ?_ ?_
   ·exact Jg (f:=jHT) (fun c fm=>JI 5 (jMH (JB 5) (Yw (QN xp (Jc (fm.ok ok0) (fm.bi B0).len Ji (JA (JB 8) (JD))) (JC)))))
   refine JN (f:=jID) (g:=jHO) ?_ ?_
   ·refine jZV (f:=jVP) (fB:=jHK) 9 ?_ ?_
    ·exact jEC (fun c fm=>JB 8)
    ·refine JN (f:=jSF) (g:=jOA) ?_ ?_
     ·refine jZV (f:=jCK) (fB:=jHL) 10 ?_ ?_
      ·exact jEC (fun c fm=>JF Ja (JV (JA (JB 9) (JD))) (JO (fm.ok ok0) (vAL c fm) (JA (JO (fm.ok ok0) (vAI c fm) (JA (JG (JB 4) (JC)) (JA (JG (JB 4) (JC)) (JA (JG (JB 4) (JC)) (JA (JB 9) (JD)))))) (JA (JB 9) (JD)))))
      ·refine JN (f:=jHZ) (g:=jOB) ?_ ?_
       ·refine jMR (f:=jNX) 4 ?_
        exact jQC ok0 t__law_step (fun c fm=>JA (JB 2) (JA (JB 4) (JA (JB 10) (JD))))
       refine JN (f:=jOS) (g:=jOC) ?_ ?_
       ·exact Jg (f:=jWT) (fun c fm=>JM (JJ qJF (JB 4) (Qt)) (dQ (JE (Jj)) (dE)) (dE))
       exact Jw
     exact Jw
   refine JN (f:=jBY) (g:=jHP) ?_ ?_
   ·refine jMQ (f:=jNU) (g:=jVS) (k:=jVR) ?_ ?_ ?_
    ·refine jMO (f:=jNV) ?_
     refine jMN (f:=jHG) ?_
     exact jQC ok0 t__law_stands (fun c fm=>JA (JB 2) (JA (JG (JB 4) (JC)) (JA (JG (JB 4) (JC)) (JA (QN op_eq (JF Ju (Jc (fm.ok ok0) (fm.bi B0).len Ji (JA (JG (JB 4) (JC)) (JD))) (JC)) (JC)) (JA (JB 6) (JA (JB 7) (JD)))))))
    ·refine JN (f:=jSE) (g:=jVT) ?_ ?_
     ·exact Jg (f:=jWS) (fun c fm=>JE (Jj))
     exact Jw
    ·exact Jw
   refine JN (f:=vY) (g:=jNZ) ?_ ?_
   ·exact Jg (f:=yn) (fun c fm=>JM (QD (vr (JJ op_eq (JF Ju (JF XR (JB 7) (JC)) (JC)) (JC)) (vr (JJ qj (Jc (fm.ok ok0) (fm.bi B0).len Ji (JA (JG (JB 4) (JC)) (JD))) (JC)) (vN)))) (dQ (jMK 11 (YK (XU (j:=2) fm.wd (fm.pc pc0) rfl (vAs c fm)) (YK (XU (j:=2) fm.wd (fm.pc pc0) rfl (vAo c fm)) (YK (XU (j:=2) fm.wd (fm.pc pc0) rfl (vAn c fm)) (YK (XU (j:=2) fm.wd (fm.pc pc0) rfl (vAl c fm)) (jMM)))))) (dE)) (dE))
   exact Jw
 refine Xg (R1:=(ofF yv)) (R2:=jQP) ?_ ?_
 ·refine jFM (f:=yv) ?_
  exact Jg (f:=jHU) (fun c fm=>jMK 11 (YK (XU (j:=2) fm.wd (fm.pc pc0) rfl (vAs c fm)) (YK (XU (j:=2) fm.wd (fm.pc pc0) rfl (vAo c fm)) (YK (XU (j:=2) fm.wd (fm.pc pc0) rfl (vAn c fm)) (YK (XU (j:=2) fm.wd (fm.pc pc0) rfl (vAl c fm)) (jMM))))))
 refine Xg (R1:=jXC) (R2:=jKI) ?_ ?_
 ·exact qHF (g:=jPN) 12 ok0 pc0 w_Page (fun c fm=>JA (JF Ja (JC) (JF Ju (JO (fm.ok ok0) (vAF c fm) (JA (JB 0) (JA (JC) (JD)))) (JC))) (JD))
 refine Xg (R1:=(ofF yu)) (R2:=jKH) ?_ ?_
 ·refine jFM (f:=yu) ?_
  refine jMQ (f:=jNO) (g:=jRH) (k:=jRG) ?_ ?_ ?_
  ·refine qHD ?_
   refine jZU (f:=jHC) (g:=jHA) ?_ ?_
   ·refine jMO (f:=jNT) ?_
    refine jMN (f:=jHF) ?_
    exact jQC ok0 t__law_stands (fun c fm=>JA (JB 12) (JA (JV (JD)) (JA (JF Ja (JC) (JF Ju (JO (fm.ok ok0) (vAF c fm) (JA (JB 0) (JA (JC) (JD)))) (JC))) (JA (Jj) (JA (JB 6) (JA (JB 1) (JD)))))))
   ·refine jZU (f:=jHB) (g:=jVO) ?_ ?_
    ·refine qHC (f:=jNW) (fun _=>qEG) ?_
     exact jQB (j:=12) pc0 vAv (fun c fm=>JA (JC) (JA (JT) (JD)))
    ·exact qKG
  ·refine JN (f:=jSD) (g:=jRI) ?_ ?_
   ·exact Jg (f:=jRT) (fun c fm=>JE (Jj))
   exact Jw
  ·exact Jw
 refine Xg (R1:=(ofF yt)) (R2:=jKG) ?_ ?_
 ·refine jFM (f:=yt) ?_
  refine jMQ (f:=jNR) (g:=jRE) (k:=jRD) ?_ ?_ ?_
  ·refine jMO (f:=jNS) ?_
   refine jMN (f:=jHE) ?_
   exact jQC ok0 t__law_stands (fun c fm=>JA (JB 12) (JA (JV (JA (JT) (JD))) (JA (JF Ja (JC) (JF Ju (JO (fm.ok ok0) (vAF c fm) (JA (JB 0) (JA (JC) (JD)))) (JC))) (JA (Jj) (JA (JB 6) (JA (JB 1) (JD)))))))
  ·refine JN (f:=jSC) (g:=jRF) ?_ ?_
   ·exact Jg (f:=jRS) (fun c fm=>JE (Jj))
   exact Jw
  ·exact Jw
 refine Xg (R1:=(ofF yr)) (R2:=zp) ?_ ?_
 ·refine jFM (f:=yr) ?_
  refine jMQ (f:=jNP) (g:=jRB) (k:=jRA) ?_ ?_ ?_
  ·refine jMO (f:=jNQ) ?_
   refine jMN (f:=jHD) ?_
   exact jQC ok0 t__law_stands (fun c fm=>JA (JB 2) (JA (JG (JB 4) (JC)) (JA (JG (JB 4) (JC)) (JA (Jj) (JA (JB 6) (JA (JO (fm.ok ok0) (vAF c fm) (JA (JB 0) (JA (JC) (JD)))) (JD)))))))
  ·refine JN (f:=jSB) (g:=jRC) ?_ ?_
   ·exact Jg (f:=jRR) (fun c fm=>JE (Jj))
   exact Jw
  ·exact Jw
 exact qHE (qHG (j:=6) (f:=jBW) rfl fun c fm=>JE (QN op_eq (Yc [] (zO (JB 6)) Yd (JG (JB 0) (JC))) (Yc [] (zO (JB 6)) Yd (JG (JB 0) (JC)))))
theorem qDK:Q7 (JQ pW 57) ["_law_script"]:=fun _ _ _ _ h=>by obtain ⟨v0,rfl⟩:=jLO h;rfl
end L14
namespace L14
set_option maxRecDepth 20000
set_option maxHeartbeats 400000
theorem qFP (ok:c.Ok) (B:Bi c) (hw:Wd c) (pc:Pc c pW 29 K C) (vAf:Fn c false 1 "need_width" Je):OpN c false 3 (fun vs=>call (.ref C) vs) jGZ:=by
 refine qFU (f:=qEN c.sg) ok pc rfl (qDC ok B hw pc vAf) (fun x ds r h=>?_) zd (by kernel_rfl)
 unfold jGZ at h
 split at h
 ·rename_i d
  split at h
  ·rename_i k hk
   obtain rfl:=vAy h
   refine ⟨k,rfl,?_⟩
   have e:jBX c.sg (Xm 0 [.ob x,d]) = some (.exc k (Xm 0 [.ob x,d])):=by
    show Yj (Je [d]) _ _ = _
    rw [hk];rfl
   show jNM (v9 (jBX c.sg (Xm 0 [.ob x,d])) fun Z=>none) = _
   rw [e];rfl
  ·exact nos h
 ·exact nos h
theorem jSJ (ok0:c0z.Ok) (pc0:Pc c0z pW 29 K C) (vAf:∀ c,Fam c0z c -> Fn c false 1 "need_width" Je)
  (hno:∀ w:Int,1 <= w -> Je [.int w] = some (.ok (.none,2))):OpW c0z false 3 (fun vs=>call (.ref C) vs) jXY:=by
 intro c A l s vs ds fp U Q E fm hR hg rs hz hY hQ
 obtain ⟨w,rfl,hw1,hU⟩:=hY
 obtain ⟨r1,r2⟩:=rs.invC
 obtain ⟨t,rfl,rfl⟩:=r1.inv
 obtain ⟨rfl,rfl⟩:=r2.inv
 have pc:=fm.pc pc0
 have ok:=fm.ok ok0
 obtain ⟨fI,o,pm,code,doc,g1,g2,g3,g4,g5⟩:=qBN pc (x:="__init__") (k0z:=0) (by decide) rfl
 have X:K.In s.heap:=fun b o e=>hg.1 b o (pc.kin b o e)
 have pg:=jz pc.chk
 rw [<- fm.md]
 obtain ⟨hh,gg,dr,tk,os⟩:=s
 refine vCi (make_core (makes_of X pg.ms) (looks_findIn X g1) (fun self=>bind_fn X self g2) (.inl rfl) ?_)
 have hfr:∀ b,hh.objs.size <= b -> hh.get? b = none:=fun b hb=>vCA hb
 have hx1z:(Yo hh C).get? (hh.objs.size + 1) = some (instObj C hh.objs.size):=by
  have:=vBL (hh.push emptyDict) (o:=instObj C hh.objs.size) rfl
  rwa [vCa] at this
 have hd1:(Yo hh C).get? hh.objs.size = some emptyDict:=vBB _ (vBL _ rfl)
 refine codeAny_mono (vF (ps:=["self","width"]) (nm:=["self","width"]) (Q:=fun v s'=>v = .none /\ Q (.ref (hh.objs.size + 1)) s') (E:=E) (s:=⟨Yo hh C,gg,dr,tk,os⟩) (hm:=false) (n:=1) (ds:=[.ob (hh.objs.size + 1),.int w]) 0 ok g3 g4 g5 ⟨rfl,rfl,rfl,rfl,rfl⟩ (by kernel_rfl)
  (zd _ _ _ _ [.ref (hh.objs.size + 1),.int w t]) (hR.make fun b o e=>YM e) (fun b o e=>YM (hg.1 b o e):c.base.StaysIn (Yo hh C)) (.inl hg.2) (.cons (.ob _) (.cons (.int w t) .nil)) rfl fun env vf s1z hsc hR1 iv hsm=>?_) fun r s' z=>?_
 ·generalize hX:hh.objs.size + 1 = x at *
  generalize hD:hh.objs.size = dx at *
  have hx2:s1z.heap.get? x = some (instObj C dx):=(iv.kb x _ id hx1z).1 (fun es k e=>by cases e)
  obtain ⟨_,sl0,hd2⟩:=iv.kb dx _ id hd1
  have hMx:¬ Mut env (Xm 0 [.ob x,.int w]) vf x:=fun hM=>by have:=hM.new iv;rw [hx1z] at this;exact son this
  have hMd:¬ Mut env (Xm 0 [.ob x,.int w]) vf dx:=fun hM=>by have:=hM.new iv;rw [hd1] at this;exact son this
  have iv':=iv.cutH (S:=fun b=>hh.get? b ≠ none) (fun b o e=>by rw [hg.1 b o e];exact fun q=>nomatch q)
  have hxn:hh.get? x = none:=hfr x (lN [_,_] (.v 0) (.v 1) [(.a (.v 0) (.n 1),.v 1)] rT (vBs hX))
  have hdn:hh.get? dx = none:=hfr dx (vBI _)
  have hxd:x ≠ dx:=by exact fun eq=>fN (lN [_,_] (.n 1) (.n 0) [(.a (.v 0) (.n 1),.v 1),(.v 1,.v 0)] rT (vBs hX) (vBs eq))
  refine wpAny_execs_cons ((jG (JO ok (vAf c fm) (JA (JB 1) JD))) _ _ env _ [] (Xm 0 [.ob x,.int w]) vf s1z (.next (Xm 0 [.ob x,.int w])) _ _ hsc hR1 iv' ?_ (fun f s2z p=>?_) (fun _ _ p=>p.elim))
  ·show Yj (Je [.int w]) _ _ = _
   rw [hno w hw1];rfl
  cases f <;> first | exact p.elim | skip
  obtain ⟨vf2,p⟩:=p
  have hR2z:=p.room iv' hR1
  have hx3:s2z.heap.get? x = some (instObj C dx):=(p.kp x _ hMx hx2).1 (fun es k e=>by cases e)
  obtain ⟨_,sl1,hd3⟩:=p.kp dx _ hMd hd2
  have hMd2:¬ Mut env (Xm 0 [.ob x,.int w]) vf2 dx:=p.mut dx _ hd2 hMd
  have hMx2:¬ Mut env (Xm 0 [.ob x,.int w]) vf2 x:=p.mut x _ hx2 hMx
  have hLd:dx ≠ env.locals:=fun q=>hMd2 (.inl q)
  have hLx:x ≠ env.locals:=fun q=>hMx2 (.inl q)
  refine jIZ (x:=x) (dx:=dx) (od:={ emptyDict with slots:=sl1 }) (name:="kept") (la:=2) (d:=.list []) (lv:=2) pc hsc hR2z p.iv hx3 hd3 rfl hMd2 (z8 (fun q=>q hdn):(cut (fun b=>hh.get? b ≠ none) (Yo hh C)).get? dx = none) rfl rfl (JV JD) rfl (by show (findIn K (.ref C) "kept").bind _ = _;rw [pg.nk];rfl) (fun _=>rfl) (fun _ _ _ _=>⟨_,_,rfl,Nat.le_of_ble_eq_true rfl⟩) rfl
   fun v1 fp1 sl2 hash1 tk1 s3z iv3 hR3 hd4 sm3 kp3 ex3 rp1 lv1=>?_
  have hx4:s3z.heap.get? x = some (instObj C dx):=kp3 x _ hxd hLx hx3 (fun es k e=>by cases e)
  refine jIZ (x:=x) (dx:=dx) (od:=Obj.putName "kept" hash1 (.str "kept" tk1) v1 { emptyDict with slots:=sl2 }) (name:="wide") (la:=2) (d:=.int w) (lv:=0) pc hsc hR3 iv3 hx4 hd4 rfl hMd2 (z8 (fun q=>q hdn):(cut (fun b=>hh.get? b ≠ none) (Yo hh C)).get? dx = none) rfl rfl (JB 1) rfl (by show (findIn K (.ref C) "wide").bind _ = _;rw [pg.nw];rfl) (fun _=>rfl) (fun _ _ _ _=>⟨_,_,rfl,Nat.le_of_ble_eq_true rfl⟩) rfl
   fun v2 fp2 sl3 hash2 tk2 s4z iv4 hR4 hd5 sm4 kp4 ex4 rp2 lv2=>?_
  have hx5:s4z.heap.get? x = some (instObj C dx):=kp4 x _ hxd hLx hx4 (fun es k e=>by cases e)
  refine jIZ (x:=x) (dx:=dx) (od:=Obj.putName "wide" hash2 (.str "wide" tk2) v2 { Obj.putName "kept" hash1 (.str "kept" tk1) v1 { emptyDict with slots:=sl2 } with slots:=sl3 }) (name:="past") (la:=2) (d:=.list []) (lv:=2) pc hsc hR4 iv4 hx5 hd5 rfl hMd2 (z8 (fun q=>q hdn):(cut (fun b=>hh.get? b ≠ none) (Yo hh C)).get? dx = none) rfl rfl (JV JD) rfl (by show (findIn K (.ref C) "past").bind _ = _;rw [pg.np];rfl) (fun _=>rfl) (fun _ _ _ _=>⟨_,_,rfl,Nat.le_of_ble_eq_true rfl⟩) rfl
   fun v3 fp3 sl4 hash3 tk3 s5 iv5 hR5 hd6 sm5 kp5 ex5 rp3 lv3=>?_
  have hx6:s5.heap.get? x = some (instObj C dx):=kp5 x _ hxd hLx hx5 (fun es k e=>by cases e)
  refine vBp ⟨rfl,?_⟩
  obtain ⟨L1,w1,f1,hl1,rs1⟩:=QR rp1
  obtain ⟨e1,rfl⟩:=rs1.inv
  obtain ⟨L2,w2,f2,hl2,rs2⟩:=QR rp3
  obtain ⟨e2,rfl⟩:=rs2.inv
  obtain ⟨t2,rfl,rfl⟩:=rp2.inv
  obtain ⟨hn1,hN1⟩:=(lv1.2 (vBI _)).1 L1 (vBA ..)
  obtain ⟨hn2,hN2⟩:=(lv3.2 (vBI _)).1 L2 (vBA ..)
  obtain ⟨k1,slA,ho1⟩:=vm hl1 hN1
  obtain ⟨k2,slB,ho2⟩:=vm hl2 hN2
  have locs:∀ {s':Shared},Iv c (cut (fun b=>hh.get? b ≠ none) (Yo hh C)) [] env ["self","width"] (Xm 0 [.ob x,.int w]) vf2 s' -> ∀ b,s'.heap.get? b = none -> b ≠ env.locals:=fun iv b hb q=>by
   obtain ⟨m,o,_,_,z,_⟩:=iv.rd.ns
   rw [q,z] at hb;exact son hb
  have h1d:L1 ≠ dx:=fun q=>by rw [q,hd3] at hn1;exact son hn1
  have h1x:L1 ≠ x:=fun q=>by rw [q,hx3] at hn1;exact son hn1
  have ho1':s4z.heap.get? L1 = some { cls:=.type "list",data:=.seq w1 k1,slots:=slA }:=kp4 L1 _ h1d (locs p.iv L1 hn1) ho1 (JK rfl)
  have ho1'':s5.heap.get? L1 = some { cls:=.type "list",data:=.seq w1 k1,slots:=slA }:=kp5 L1 _ h1d (locs p.iv L1 hn1) ho1' (JK rfl)
  have h2d:L2 ≠ dx:=fun q=>by rw [q,hd5] at hn2;exact son hn2
  have h2x:L2 ≠ x:=fun q=>by rw [q,hx5] at hn2;exact son hn2
  have h21:L2 ≠ L1:=fun q=>by rw [q,ho1'] at hn2;exact son hn2
  have old:∀ b o,hh.get? b = some o -> (cut (fun b=>hh.get? b ≠ none) (Yo hh C)).get? b = some o:=fun b o e=>by
   rw [Qq (by rw [e];exact fun q=>nomatch q)];exact YM e
  have new:∀ b,(cut (fun b=>hh.get? b ≠ none) (Yo hh C)).get? b = none -> hh.get? b = none:=fun b hb=>by
   cases q:hh.get? b with
   | none=>rfl
   | some o=>rw [old b o q] at hb;exact son hb
  have h1n:hh.get? L1 = none:=new L1 (p.iv.fresh hn1)
  have h2n:hh.get? L2 = none:=new L2 (iv4.fresh hn2)
  have hns:∀ b ∈ [x,dx,L1,L2],hh.get? b = none:=fun b hb=>by
   simp only [vCu,vCe,or_false] at hb
   rcases hb with q | q | q | q <;> rw [q] <;> assumption
  have hbn:∀ b,hh.get? b = none -> c.base.get? b = none:=fun b hb=>by
   cases q:c.base.get? b with
   | none=>rfl
   | some o=>have:=hg.1 b o q;rw [hb] at this;exact nos this
  have hst:c.base.StaysIn (cut (fun b=>c.base.get? b ≠ none \/ b ∈ [x,dx,L1,L2]) s5.heap):=fun b o e=>by
   rw [Qq (.inl (by rw [e];exact fun q=>nomatch q))];exact iv5.rd.bs.1 b o e
  have at_:∀ b ∈ [x,dx,L1,L2],(cut (fun b=>c.base.get? b ≠ none \/ b ∈ [x,dx,L1,L2]) s5.heap).get? b = s5.heap.get? b:=fun b hb=>Qq (.inr hb)
  have hmu:∀ b,hh.get? b = none -> b ∉ c.mu:=fun b hb q=>by
   obtain ⟨o,_,z,_⟩:=fm.wd.km b q
   rw [hbn b hb] at z;exact nos z
  have b2:=(at_ L2 (by simp)).trans ho2
  have hA:PgA c.mg (cut (fun b=>c.base.get? b ≠ none \/ b ∈ [x,dx,L1,L2]) s5.heap) ([dx,L2] ++ c.mu) x ⟨.list [],.int w,[]⟩ dx L2:=by
   refine ⟨C,hash1,hash2,hash3,tk1,tk2,tk3,.ref L1,.int w t2,(3,sl4),k2,w2,slB,[L1],[],pc.mg,((at_ x (by simp)).trans hx6),((at_ dx (by simp)).trans hd6),b2,.list ((at_ L1 (by simp)).trans ho1'') rfl rfl (by rw [(e1:w1.toList = [])];exact .nil),.int _ _,by rw [(e2:w2.toList = [])];exact .nil,fun b hb q=>?_,(fun b hb=>(nomatch hb)),by simp,by simp⟩
   rw [vBH.mp hb] at q
   simp only [vBK,vCu,vCe,or_false] at q
   rcases q with (q | q) | q
   ·exact h1d q
   ·exact h21 q.symm
   ·exact hmu _ h1n q
  have hpg:c.sg.pg x = none:=by
   cases q:c.sg.pg x with
   | none=>rfl
   | some p0 =>
    obtain ⟨dx',pa',z,_⟩:=fm.wd.pg
    obtain ⟨C',n1,n2,n3,t1,t2,t3,vk,vw,n,k,vs,sl,fk,fp,k1,k2,_⟩:=z x p0 q
    rw [hbn x hxn] at k2;exact nos k2
  have hw:Wd { c with base:=cut (fun b=>c.base.get? b ≠ none \/ b ∈ [x,dx,L1,L2]) s5.heap,mu:=[dx,L2] ++ c.mu,sg:=XH c.sg x ⟨.list [],.int w,[]⟩ }:=by
   refine fm.wd.more hst (fun b hb=>?_) ⟨x,dx,L2,fun a p0 e=>?_⟩ fun H xs e=>.inl e
   ·simp only [vCu,vCe,or_false] at hb
    rcases hb with q | q <;> rw [q]
    ·exact ⟨hbn _ hdn,_,"dict",((at_ dx (by simp)).trans hd6),rfl,by decide,fun vs q=>by cases q⟩
    ·exact ⟨hbn _ h2n,_,"list",b2,rfl,by decide,fun vs q=>by cases q⟩
   ·by_cases q:a = x
    ·rw [q] at e ⊢
     rw [jd] at e
     rw [<- vAy e]
     exact .inr ⟨rfl,by simp,by simp,hA⟩
    ·unfold XH at e;dsimp only at e;rw [if_neg q] at e
     exact .inl ⟨q,e⟩
  have hsame:s5 = { (⟨hh,gg,dr,tk,os⟩:Shared) with heap:=s5.heap,toks:=s5.toks }:=by
   obtain ⟨h5,t5,z⟩:=jKX (jKX (jKX (jKX hsm p.same) sm3) sm4) sm5
   rw [z]
  have g:=qIP (s:=⟨hh,gg,dr,tk,os⟩) (h':=s5.heap) (t:=s5.toks) hg (fun b o _ e=>iv5.kb b o id (old b o e)) iv5.rd.bs.1 hns (fun b hb=>by
   simp only [vCu,vCe,or_false] at hb ⊢
   rcases hb with q | q
   ·exact .inr (.inl q)
   ·exact .inr (.inr (.inr q))) iv5.rd.bs.2 hw
  rw [<- hsame] at g
  exact hQ _ (.ref x) (.ob x) [] s5 (hU x hpg) g (.ob x) fun _ h=>nomatch h
 ·rcases r with e | (v | _ | _ | _) <;> first | exact z | exact z.elim
theorem jPR (ok0:c0z.Ok) (pc0:Pc c0z pW 29 K C) (w_Page:OpW c0z false 3 (fun vs=>call (.ref C) vs) jXY) (hf:QZ c0z (JQ pW 41)):FnW c0z false 4 "_law_page_by" jXY:=by
 obtain ⟨a,o,pm,code,doc,g1,g2,g3,g4⟩:=hf
 refine ⟨a,o,_,g1,g2,g3,?_⟩
 intro c A l s vs ds fp U Q E fm hR hg rs hz hY hQ
 obtain ⟨w,rfl,hY'⟩:=id hY
 rw [<- fm.md]
 refine vCi (vF (ps:=["_law_width"]) (nm:=["_law_width","_law_e"]) (n:=3) (hm:=false) 1 (fm.ok ok0) (fm.st _ _ g2) g3 (g4.keeps fm.st) ⟨rfl,rfl,rfl,rfl,rfl⟩ (by kernel_rfl) (ki pm code doc vs) hR hg.1 (.inl hg.2) rs rfl fun env vf s1z hsc hR1 iv hsm=>?_)
 refine wpAny_execs_cons (wpAny_Try_except (wpAny_execs_cons (vCr ?_)))
 refine Call_ (J8 (fm.ok ok0) (⟨iv,Vh.refl fm.wd,hR1,fm.wd,hg.1,hsm,hz⟩:Fs c s false 3 (A.deeper env) (env :: l) fp env ["_law_width","_law_e"] c s.heap (Xm 1 [.int w]) vf s1z).iv.rd hsc.1 (by kernel_rfl) (by rfl) (.inl (fm.pc pc0).mg) ?_) (by rfl)
 rw [fm.md]
 refine callWith_K (first:=[]) (h₀:=c.base) (fm.pc pc0).kin (jPD (jz pc0.chk).ms) (vCO (jNY fm (⟨iv,Vh.refl fm.wd,hR1,fm.wd,hg.1,hsm,hz⟩:Fs c s false 3 (A.deeper env) (env :: l) fp env ["_law_width","_law_e"] c s.heap (Xm 1 [.int w]) vf s1z) hsc.1 (JA (JB 0) JD) (ds:=[.int w]) rfl w_Page hY fun v d fp' c' h' s' hd fm' y' tk rp hz'=>?_) (fun vs s1z h=>⟨fun b o e=>h.1 b o ((fm.pc pc0).kin b o e),h.2⟩) fun _ _ x=>x) rfl
 exact hQ c' v d fp' s' hd y'.fin rp hz'
end L14
namespace L14
open Mine
set_option linter.unusedSimpArgs false
set_option maxRecDepth 100000
set_option maxHeartbeats 8000000 in
theorem qAC (NW:∀ (w:Int),1 <= w -> Je [.int w] = some (.ok (.none,2))) (PL:∀ (ns:List Int),ns.length <= 63 -> qHS ⟨fun _=>none,fun _=>none⟩ (Xm 12 [.list (ns.map .int)]) (fun r=>∃ W',r = .ret (.bool true) W')):PySem.Challenge.rw_uf040006_14.Holds:=by
 w_on
 refine holds_law (l:=PySem.Challenge.rw_uf040006_14) (by kernel_rfl) fun said=>?_
 refine holds_open (q:=jXF) (loose:=["Page"]) (Xt:=qIE) (XP:=XL jXF []) (Yf:=Hook.obs (jOX jXF pW 29)) (Ya:=Hook.val (jOX jXF pW 29)) (YP:=Hook.says (jOX jXF pW 29)) (N:=9000) qGD (Hook.of (jOX jXF pW 29)) (Hook.keeps (jOX jXF pW 29)) (fun s e=>xl_of s (Bool.and_eq_true_iff.mp e).1) XL.keeps (by rfl) (by rfl) (by rfl) (fun s e=>recFacts_of (Bool.and_eq_true_iff.mp e).2) (by rfl) (by first | assumption | decide +kernel) (by decide +kernel) ⟨rfl,rfl,rfl,rfl,rfl,by decide +kernel⟩ ?hw ?hc
 case hw=>w_witness2
 intro w s0 s1z mg mb G Y fa o pm cd doc dV kV ho hdd hcd hD hmg hg args vals as hpre hlay hrd hwl hlo
 obtain ⟨K,C,⟨KX,hK⟩,PK⟩:=Y
 refine Ground.open G ?_
 intro T B D TE TW
 wrow_args hpre hlay hrd hwl hlo
 rename IntsAre _ _=>hI
 rename Heap.IsList _ _ _=>hL
 rename (¬ ((63:Int) < _))=>hlen
 have ok:=qND (prog:=pR) (w:=w) T
 have Bb:=qNI (prog:=pR) (w:=w) T (by kernel_rfl)
 have R:∀ j d,(recsOf _)[j]? = some d -> QZ (Yg pR w s1z mg mb) d:=fun j d e=>T.fn d (vBT e)
 have X:=qLM (prog:=pR) (w:=w) T KX hK (by kernel_rfl)
 have pc:=qLZ (prog:=pR) (w:=w) T PK
 have mw:=qMD (prog:=pR) (w:=w) T (by kernel_rfl)
 have vAf:=fun c (fm:Fam (Yg pR w s1z mg mb) c)=>jJF (fm.ok ok) (fm.bi Bb) (fm.xs X)  (fm.fn (R 0 (JQ pW 13) (by kernel_rfl)))
 have vAg:=fun c (fm:Fam (Yg pR w s1z mg mb) c)=>jJE (fm.ok ok) (fm.bi Bb) (fm.xs X) ((fun c (fm:Fam (Yg pR w s1z mg mb) c)=>jMA (fm.ok ok) (fm.bi Bb) (vAf c fm).mono (fm.fn (R 1 (JQ pW 14) (by kernel_rfl)))) c fm).mono (fm.fn (R 4 (JQ pW 18) (by kernel_rfl)))
 have vAh:=fun c (fm:Fam (Yg pR w s1z mg mb) c)=>jLZ (fm.ok ok) (fm.bi Bb)  (fm.fn (R 7 (JQ pW 22) (by kernel_rfl)))
 have vAi:=fun c (fm:Fam (Yg pR w s1z mg mb) c)=>jPO (fm.ok ok) (fm.bi Bb) (vAg c fm).mono (vAh c fm).mono (fm.fn (R 8 (JQ pW 23) (by kernel_rfl)))
 have vAb:=fun c (fm:Fam (Yg pR w s1z mg mb) c)=>jUS (fm.ok ok) (fm.bi Bb)  (fm.fn (R 10 (JQ pW 26) (by kernel_rfl)))
 have vAQ:=fun c (fm:Fam (Yg pR w s1z mg mb) c)=>jDT (fm.ok ok) (fm.bi Bb)  (fm.fn (R 12 (JQ pW 32) (by kernel_rfl)))
 have vAV:=fun c (fm:Fam (Yg pR w s1z mg mb) c)=>jJH (fm.ok ok) (fm.bi Bb)  (fm.fn (R 14 (JQ pW 34) (by kernel_rfl)))
 have vAW:=fun c (fm:Fam (Yg pR w s1z mg mb) c)=>jFJ (fm.ok ok) (fm.bi Bb) (vAV c fm).mono (fm.fn (R 15 (JQ pW 35) (by kernel_rfl)))
 have vAT:=fun c (fm:Fam (Yg pR w s1z mg mb) c)=>jJI (fm.ok ok) (fm.bi Bb)  (fm.fn (R 16 (JQ pW 36) (by kernel_rfl)))
 have vAJ:=fun c (fm:Fam (Yg pR w s1z mg mb) c)=>jAV (hm:=false) (fm.ok ok) (fm.bi Bb) (fm.xs X)  (fm.fn (R 22 (JQ pW 42) (by kernel_rfl)))
 have vAI:=fun c (fm:Fam (Yg pR w s1z mg mb) c)=>jPQ (fm.ok ok) (fm.bi Bb) ((fun c (fm:Fam (Yg pR w s1z mg mb) c)=>jDV (fm.ok ok) (fm.bi Bb)  (fm.fn (R 17 (JQ pW 37) (by kernel_rfl)))) c fm).mono (fm.fn (R 24 (JQ pW 44) (by kernel_rfl)))
 have vAs:=fun c (fm:Fam (Yg pR w s1z mg mb) c)=>jLW (fm.ok ok) (fm.bi Bb) fm.wd (fm.pc pc) 
 have vAr:=fun c (fm:Fam (Yg pR w s1z mg mb) c)=>jLX (fm.ok ok) (fm.bi Bb) fm.wd (fm.pc pc) 
 have vAo:=fun c (fm:Fam (Yg pR w s1z mg mb) c)=>jLY (fm.ok ok) (fm.bi Bb) fm.wd (fm.pc pc) (vAi c fm).mono
 have vAn:=fun c (fm:Fam (Yg pR w s1z mg mb) c)=>jJD (fm.ok ok) (fm.bi Bb) fm.wd (fm.pc pc) ((fun c (fm:Fam (Yg pR w s1z mg mb) c)=>jFI (fm.ok ok) (fm.bi Bb) (vAh c fm).mono (vAi c fm).mono (fm.fn (R 9 (JQ pW 24) (by kernel_rfl)))) c fm).mono
 have vAl:=fun c (fm:Fam (Yg pR w s1z mg mb) c)=>jMB (fm.ok ok) (fm.bi Bb) fm.wd (fm.pc pc) ((fun c (fm:Fam (Yg pR w s1z mg mb) c)=>jPP (fm.ok ok) (fm.bi Bb) ((fun c (fm:Fam (Yg pR w s1z mg mb) c)=>jMD (fm.ok ok) (fm.bi Bb)  (fm.fn (R 5 (JQ pW 19) (by kernel_rfl)))) c fm).mono ((fun c (fm:Fam (Yg pR w s1z mg mb) c)=>jFH (fm.ok ok) (fm.bi Bb) (fm.xs X) ((fun c (fm:Fam (Yg pR w s1z mg mb) c)=>jJG (fm.ok ok) (fm.bi Bb)  (fm.fn (R 2 (JQ pW 16) (by kernel_rfl)))) c fm).mono (fm.fn (R 3 (JQ pW 17) (by kernel_rfl)))) c fm).mono (fm.fn (R 6 (JQ pW 20) (by kernel_rfl)))) c fm).mono (vAn c fm).mono
 refine jUI PySem.Challenge.rw_uf040006_14 (k:=12) (n:=10) ok hg ?_ (R 37 (JQ pW 57) (by kernel_rfl)) hmg hL hI (by decide) qOV (qDD ok Bb X pc mw (fun c fm=>((fun c (fm:Fam (Yg pR w s1z mg mb) c)=>jDX (fm.ok ok) (fm.bi Bb)  (fm.fn (R 11 (JQ pW 31) (by kernel_rfl)))) c fm).mono) (fun c fm=>((fun c (fm:Fam (Yg pR w s1z mg mb) c)=>jBK (fm.ok ok) (fm.bi Bb) ((fun c (fm:Fam (Yg pR w s1z mg mb) c)=>jDW (fm.ok ok) (fm.bi Bb) ((fun c (fm:Fam (Yg pR w s1z mg mb) c)=>jBN (fm.ok ok) (fm.bi Bb) (vAQ c fm).mono (fm.fn (R 25 (JQ pW 45) (by kernel_rfl)))) c fm).mono ((fun c (fm:Fam (Yg pR w s1z mg mb) c)=>jBI (fm.ok ok) (fm.bi Bb)  (fm.fn (R 26 (JQ pW 46) (by kernel_rfl)))) c fm).mono ((fun c (fm:Fam (Yg pR w s1z mg mb) c)=>jDS (fm.ok ok) (fm.bi Bb) (vAQ c fm).mono (fm.fn (R 13 (JQ pW 33) (by kernel_rfl)))) c fm).mono (fm.fn (R 27 (JQ pW 47) (by kernel_rfl)))) c fm).mono (vAQ c fm).mono (fm.fn (R 32 (JQ pW 52) (by kernel_rfl)))) c fm).mono) (fun c fm=>(vAI c fm).mono) (fun c fm=>((fun c (fm:Fam (Yg pR w s1z mg mb) c)=>zw (fm.ok ok) (fm.bi Bb)  (fm.fn (R 36 (JQ pW 56) (by kernel_rfl)))) c fm).mono) (fun c fm=>((fun c (fm:Fam (Yg pR w s1z mg mb) c)=>jDU (fm.ok ok) (fm.bi Bb) (fm.xs X) fm.wd (fm.pc pc) (((fun c (fm:Fam (Yg pR w s1z mg mb) c)=>qFP (fm.ok ok) (fm.bi Bb) fm.wd (fm.pc pc) (vAf c fm).mono) c fm).mono (by decide)) (fm.fn (R 21 (JQ pW 41) (by kernel_rfl)))) c fm).mono) (fun c fm=>((fun c (fm:Fam (Yg pR w s1z mg mb) c)=>zI (fm.ok ok) (fm.bi Bb)  (fm.fn (R 20 (JQ pW 40) (by kernel_rfl)))) c fm).mono) (fun c fm=>(vAl c fm).mono) (fun c fm=>(vAn c fm).mono) (fun c fm=>(vAo c fm).mono) (fun c fm=>(vAs c fm).mono) (jDZ ok Bb X pc mw (fun c fm=>(vAT c fm).mono) (fun c fm=>(vAV c fm).mono) (fun c fm=>((fun c (fm:Fam (Yg pR w s1z mg mb) c)=>jBM (fm.ok ok) (fm.bi Bb) ((fun c (fm:Fam (Yg pR w s1z mg mb) c)=>jBJ (fm.ok ok) (fm.bi Bb) fm.wd (fm.pc pc) (vAl c fm).mono (vAn c fm).mono (vAo c fm).mono (vAr c fm).mono (vAs c fm).mono (fm.fn (R 28 (JQ pW 48) (by kernel_rfl)))) c fm).mono (fm.fn (R 29 (JQ pW 49) (by kernel_rfl)))) c fm).mono) (fun c fm=>(vAr c fm).mono) (fun c fm=>(vAs c fm).mono) (jFK ok Bb X pc mw (fun c fm=>((fun c (fm:Fam (Yg pR w s1z mg mb) c)=>qE (fm.ok ok) (fm.bi Bb)  (fm.fn (R 19 (JQ pW 39) (by kernel_rfl)))) c fm).mono) (fun c fm=>((fun c (fm:Fam (Yg pR w s1z mg mb) c)=>xw (fm.ok ok) (fm.bi Bb) (vAW c fm).mono (fm.fn (R 18 (JQ pW 38) (by kernel_rfl)))) c fm).mono) (fun c fm=>(vAT c fm).mono) (fun c fm=>(vAW c fm).mono) (R 30 (JQ pW 50) (by kernel_rfl))).mono (R 31 (JQ pW 51) (by kernel_rfl))).mono (jJL ok Bb X pc mw (fun c fm=>((fun c (fm:Fam (Yg pR w s1z mg mb) c)=>jJJ (fm.ok ok) (fm.bi Bb)  (fm.fn (R 34 (JQ pW 54) (by kernel_rfl)))) c fm).mono) (fun c fm=>((fun c (fm:Fam (Yg pR w s1z mg mb) c)=>jBL (fm.ok ok) (fm.bi Bb) (vAV c fm).mono (fm.fn (R 33 (JQ pW 53) (by kernel_rfl)))) c fm).mono) (fun c fm=>(vAI c fm).mono) (fun c fm=>((fun c (fm:Fam (Yg pR w s1z mg mb) c)=>jME (fm.ok ok) (fm.bi Bb) (fm.xs X) fm.wd (fm.pc pc) ((fun c (fm:Fam (Yg pR w s1z mg mb) c)=>jAV (hm:=true) (fm.ok ok) (fm.bi Bb) (fm.xs X)  (fm.fn (R 22 (JQ pW 42) (by kernel_rfl)))) c fm).mono ((fun c (fm:Fam (Yg pR w s1z mg mb) c)=>qGQ (fm.ok ok) (fm.bi Bb) (fm.xs X) fm.wd (fm.pc pc)) c fm).mono ((fun c (fm:Fam (Yg pR w s1z mg mb) c)=>qJZ (fm.ok ok) (fm.bi Bb) (fm.xs X) fm.wd (fm.pc pc) (fm.mw mw) (vAb c fm).mono) c fm).mono ((fun c (fm:Fam (Yg pR w s1z mg mb) c)=>qGP (fm.ok ok) (fm.bi Bb) (fm.xs X) fm.wd (fm.pc pc)) c fm).mono ((fun c (fm:Fam (Yg pR w s1z mg mb) c)=>qCO (fm.ok ok) (fm.bi Bb) fm.wd (fm.pc pc) (vAg c fm).mono) c fm).mono (fm.fn (R 23 (JQ pW 43) (by kernel_rfl)))) c fm).mono) (jJK ok Bb X pc mw (qCQ ok Bb X pc mw (vn ok Bb X pc mw).mono).mono (jYZ ok Bb X pc mw (fun c fm=>(vAb c fm).mono) (vn ok Bb X pc mw).mono).mono (qCP ok Bb X pc mw).mono (jYY ok Bb X pc mw (fun c fm=>(vAg c fm).mono) (vn ok Bb X pc mw).mono).mono (R 23 (JQ pW 43) (by kernel_rfl))).mono (qGS (R 33 (JQ pW 53) (by kernel_rfl))) (R 35 (JQ pW 55) (by kernel_rfl))).mono (jYZ ok Bb X pc mw (fun c fm=>(vAb c fm).mono) (vn ok Bb X pc mw).mono).mono ((jSJ ok pc (fun c fm=>(vAf c fm).mono) NW).mono (by decide)) (jPR ok pc (jSJ ok pc (fun c fm=>(vAf c fm).mono) NW) (R 21 (JQ pW 41) (by kernel_rfl))).mono) qDK (by kernel_rfl) (by kernel_rfl) (PL _ (by omega))
 wrow_post
local macro_rules
 | `(tactic| wp_walk using $ts,*)=>do
  let e:=ts.getElems
  let c:=e[0]!.raw.getId == `kN
  let r:=(("kN kI kS qMU jl qJU qOR qGG qML qMJ qMO" ++ (if c then "" else " qMN qMV") ++ " qMK qMP qMF qMM qMQ qMI qMH qMR qMS qJS qOJ qJV qOS qMG qOI qIL qIK qIJ qII qON qOO qOK qOL qOP qOQ" ++ (if c then "" else " qMT") ++ " jYU jYT jKD qAG vz qAL Zo qAH qAI jQG qAJ jVC qJT qOM Za qET qKX qDL qKY qHN jRQ qBE jWP jWO jTV List.set_cons_succ List.set_cons_zero jOF Option.map_some if_true if_false Bool.false_eq_true qIX qIY qDO jRP qGB qGE qGM qGN qGX qFY qGW qFW qAS jVF qBR jXR jYO qCH qCI jYP qCC jSZ qBX jXX jVD jYQ qCE jLS jIX jIY jUN jUM jYD Nat.reduceLT decide_true decide_false beq_self_eq_true bnT bnF jUL jUK jPG jPH jPF zF kc ne_eq not_false_eq_true not_true_eq_false").splitOn " ").toArray.map fun s=>(Lean.mkIdent s.toName:Lean.Term)
  `(tactic| simp only [$[$(r ++ e):term],*])
theorem jGV (ns:List Int) (k:Nat) (h:ns.length <= 63):∃ lv,JY [.list (ns.map .int),.int (k:Int)] = some (.ok (.int (ns.getD k 0),lv)):=by
 have hb:(ns.map D.int).length <= big:=by rw [vBF];exact vAz h (by decide)
 by_cases hk:k < ns.length
 ·refine ⟨0,?_⟩
  have e:(ns.map D.int)[k]? = some (.int (ns.getD k 0)):=by simp [hk]
  have hk':(k:Int) < ns.length:=vCb.mpr hk
  show jNM (XF [some (.list (ns.map D.int),0),some (.int (k:Int),2)]) = _
  (wp_walk using XF,ZV,zG _ hb,vBF,hk',jGQ e hb)
  rfl
 ·refine ⟨2,?_⟩
  have hk':¬ (k:Int) < ns.length:=fun h=>hk (vCb.mp h)
  show jNM (XF [some (.list (ns.map D.int),0),some (.int (k:Int),2)]) = _
  (wp_walk using XF,ZV,qc,zG _ hb,vBF,hk',vBJ,List.getElem?_eq_none (vBy hk),Option.getD_none)
  rfl
noncomputable def signs:List Nat:=[33,34,35,36,38,39,40,41,42,43,44,45,46,47,48,49,50,51,52,53,54,55,56,57,58,59,60,61,62,63,64,65,66,67,68,69,70,71,72,73,74,75,76,77,78,79,80,81,82,83,84,85,86,87,88,89,90,91,92,93,94,95,96] ++ [97,98,99,100,101,102,103,104,105,106,107,108,109,110,111,112,113,114,115,116,117,118,119,120,121,122,123,124,125,126]
def Zb (c:Int):Nat:=signs.getD (c.fmod 93).toNat 33
theorem zk (c:Int):QH [.int c] = some (.ok (.str [Zb c],2)):=by
 have e:signs[(c.fmod 93).toNat]? = some (Zb c):=by
  unfold Zb
  rw [vBJ,vBP (by rw [(rfl:signs.length = 93)];exact nT (Int.lt_of_le_of_lt (zP (vBN _ (by decide):0 <= c.fmod 93)) (vBS _ (by decide):c.fmod 93 < 93)))];rfl
 have hi:=jYM e (by rw [(rfl:signs.length = 93)];decide)
 rw [(by exact vCE (vBN _ (by decide):0 <= c.fmod 93):(((c.fmod 93).toNat:Nat):Int) = c.fmod 93)] at hi
 show jNM (ZD [some (.int c,2),none]) = _
 (wp_walk using ZD,qX,qW)
 rw [zg _ _ (by decide)]
 (wp_walk using qV)
 rw [show ([33,34,35,36,38,39,40,41,42,43,44,45,46,47,48,49,50,51,52,53,54,55,56,57,58,59,60,61,62,63,64,65,66,67,68,69,70,71,72,73,74,75,76,77,78,79,80,81,82,83,84,85,86,87,88,89,90,91,92,93,94,95,96] ++ [97,98,99,100,101,102,103,104,105,106,107,108,109,110,111,112,113,114,115,116,117,118,119,120,121,122,123,124,125,126]:List Nat) = signs from rfl,hi]
 rfl
theorem jWM:∀ k ∈ signs,k ≠ 32 /\ k ≠ 10:=by decide
theorem jKY (c:Int):Zb c ≠ 32 /\ Zb c ≠ 10:=by
 unfold Zb
 by_cases h:(c.fmod 93).toNat < signs.length
 ·rw [vBJ,vBP h]
  exact jWM _ (List.getElem_mem h)
 ·rw [vBJ,List.getElem?_eq_none (vBy h)];decide
def jXU (w:List Nat):Prop:=1 <= w.length /\ w.length <= 300 /\ ∀ k ∈ w,k ≠ 32 /\ k ≠ 10
theorem jVQ (cell:Int) (sl:Option (D × Nat)):∃ k:Nat,1 <= k /\ k <= 300 /\ (v9 (Qz [some (.int cell,2),sl]) fun Z=>v9 (QS Z) fun Z=>Qy Z) = some (.next [some (.int cell,2),some (.int (k:Int),2)]):=by
 have m1:=(fun a b hb=>⟨vBN _ hb,vBS _ hb⟩:∀ (a b:Int),0 < b -> 0 <= a.fmod b /\ a.fmod b < b) cell 7 (by decide)
 have m2:=(fun a b hb=>⟨vBN _ hb,vBS _ hb⟩:∀ (a b:Int),0 < b -> 0 <= a.fmod b /\ a.fmod b < b) (cell.fdiv 63) 40 (by decide)
 have m3:=(fun a b hb=>⟨vBN _ hb,vBS _ hb⟩:∀ (a b:Int),0 < b -> 0 <= a.fmod b /\ a.fmod b < b) (cell.fdiv 567) 300 (by decide)
 have e1:Qz [some (.int cell,2),sl] = some (.next [some (.int cell,2),some (.int (1 + cell.fmod 7),2)]):=by
  (wp_walk using Qz)
 have e2:∃ k:Nat,1 <= k /\ k <= 300 /\ QS [some (.int cell,2),some (.int (1 + cell.fmod 7),2)] = some (.next [some (.int cell,2),some (.int (k:Int),2)]):=by
  by_cases h:(cell.fdiv 7).fmod 9 = 1
  ·refine ⟨(1 + (cell.fdiv 63).fmod 40).toNat,by exact nL (lZ [(((1 + (cell.fdiv 63).fmod 40).toNat:Nat):Int),_] (.n 1) (.v 0) [(.n 0,.v 1),(.a (.n 1) (.v 1),.v 0)] rT m2.1 (Int.self_le_toNat _)),by exact nL (lZ [(((1 + (cell.fdiv 63).fmod 40).toNat:Nat):Int),_] (.v 0) (.n 300) [(.a (.v 1) (.n 1),.n 40),(.v 0,.a (.n 1) (.v 1))] rT m2.2 (zP (lZ [_] (.n 0) (.a (.n 1) (.v 0)) [(.n 0,.v 0)] rT m2.1))),?_⟩
   rw [vCE (by exact lZ [_] (.n 0) (.a (.n 1) (.v 0)) [(.n 0,.v 0)] rT m2.1)]
   (wp_walk using QS,h)
  ·refine ⟨(1 + cell.fmod 7).toNat,by exact nL (lZ [(((1 + cell.fmod 7).toNat:Nat):Int),_] (.n 1) (.v 0) [(.n 0,.v 1),(.a (.n 1) (.v 1),.v 0)] rT m1.1 (Int.self_le_toNat _)),by exact nL (lZ [(((1 + cell.fmod 7).toNat:Nat):Int),_] (.v 0) (.n 300) [(.a (.v 1) (.n 1),.n 7),(.v 0,.a (.n 1) (.v 1))] rT m1.2 (zP (lZ [_] (.n 0) (.a (.n 1) (.v 0)) [(.n 0,.v 0)] rT m1.1))),?_⟩
   rw [vCE (by exact lZ [_] (.n 0) (.a (.n 1) (.v 0)) [(.n 0,.v 0)] rT m1.1)]
   (wp_walk using QS,beq_eq_false_iff_ne.mpr h)
 obtain ⟨k,k1,k2,e2⟩:=e2
 have e3:∃ k':Nat,1 <= k' /\ k' <= 300 /\ Qy [some (.int cell,2),some (.int (k:Int),2)] = some (.next [some (.int cell,2),some (.int (k':Int),2)]):=by
  by_cases h:(cell.fdiv 7).fmod 81 = 2
  ·refine ⟨(1 + (cell.fdiv 567).fmod 300).toNat,by exact nL (lZ [(((1 + (cell.fdiv 567).fmod 300).toNat:Nat):Int),_] (.n 1) (.v 0) [(.n 0,.v 1),(.a (.n 1) (.v 1),.v 0)] rT m3.1 (Int.self_le_toNat _)),by exact nL (lZ [(((1 + (cell.fdiv 567).fmod 300).toNat:Nat):Int),_] (.v 0) (.n 300) [(.a (.v 1) (.n 1),.n 300),(.v 0,.a (.n 1) (.v 1))] rT m3.2 (zP (lZ [_] (.n 0) (.a (.n 1) (.v 0)) [(.n 0,.v 0)] rT m3.1))),?_⟩
   rw [vCE (by exact lZ [_] (.n 0) (.a (.n 1) (.v 0)) [(.n 0,.v 0)] rT m3.1)]
   (wp_walk using Qy,h)
  ·exact ⟨k,k1,k2,by (wp_walk using Qy,beq_eq_false_iff_ne.mpr h)⟩
 obtain ⟨k',k1',k2',e3⟩:=e3
 exact ⟨k',k1',k2',by rw [e1,Zo,e2,Zo,e3]⟩
theorem jTJ (cell:Int):∃ w,jXU w /\ Xy [.int cell] = some (.ok (.str w,2)):=by
 obtain ⟨k,k1,k2,e⟩:=jVQ cell none
 have hcomp:zR ZY (fun _=>some (.ok true)) [0] [some (.int cell,2),some (.int (k:Int),2)] ((List.range k).map fun (i:Nat)=>.int (i:Int)) =
   some (((List.range k).map fun (i:Nat)=>Zb (cell.fdiv 3 + (i:Int) * (1 + cell.fmod 5))).map fun ch=>.str [ch]):=by
  rw [jZX (fun d=>match d with | .int i=>.str [Zb (cell.fdiv 3 + i * (1 + cell.fmod 5))] | _=>.none)]
  ·rw [vCJ,vCJ];rfl
  ·intro x hx
   obtain ⟨i,hi,rfl⟩:=vBa.mp hx
   refine ⟨rfl,2,?_⟩
   (wp_walk using ZY,YL,List.map_cons,List.map_nil,List.getElem?_cons_zero,Option.join_some,(jCE _ _ (jUA _ _ (Nat.lt_trans (vCP (vBV.mp hi) k2) (by decide))):jBG [.int (i:Int),.int (1 + cell.fmod 5)] = some (.ok (.int ((i:Int) * (1 + cell.fmod 5)),2))),zk)
 generalize hL:((List.range k).map fun (i:Nat)=>Zb (cell.fdiv 3 + (i:Int) * (1 + cell.fmod 5))) = L at hcomp
 have hLlen:L.length = k:=by rw [<- hL];simp
 have hLok:∀ x ∈ L,x ≠ 32 /\ x ≠ 10:=by
  intro x hx
  rw [<- hL] at hx
  obtain ⟨i,_,rfl⟩:=vBa.mp hx
  exact jKY _
 refine ⟨L,⟨by exact vAz k1 (vBs hLlen.symm),by exact vAz (vBs hLlen) k2,hLok⟩,?_⟩
 have hj:jPE [.str [],.list (L.map fun ch=>D.str [ch])] = some (.ok (.str L,2)):=by
  rw [(by rw [vCJ];rfl:(L.map fun ch=>D.str [ch]) = (L.map fun ch=>[ch]).map .str)]
  show ((jAJ _).bind _) = _
  rw [jGC,Option.bind_some,jTO,jUJ,if_pos (vAz (vAz (vBs hLlen) k2) (by decide))]
 have e4:ZQ [some (.int cell,2),some (.int (k:Int),2)] = some (.ret (.str L) 2):=by
  (wp_walk using ZQ,(jR k (vAz k2 (by decide))),jJX hcomp,hj)
 have ha:Xm 1 [.int cell] = [some (.int cell,2),none]:=rfl
 unfold Xy
 rw [Jm (by rfl),ha]
 unfold jm
 show jNM (v9 _ _) = _
 cases h1:Qz [some (.int cell,2),none] with
 | none=>rw [h1] at e;cases e
 | some o =>
  rw [h1] at e
  cases o <;> first | (cases e;done) | skip
  rename_i Z1y
  rw [Zo] at e ⊢
  show jNM (v9 _ _) = _
  cases h2:QS Z1y with
  | none=>rw [h2] at e;cases e
  | some o =>
   rw [h2] at e
   cases o <;> first | (cases e;done) | skip
   rw [Zo] at e ⊢
   rw [jl,e,Za,jl,e4]
   rfl
theorem jQO (cell:Int) (k:Nat) (h1:1 <= k) (h2:k <= 4):∃ w,jXU w /\ Qo [.int cell,.int (k:Int)] = some (.ok (.str w,2)):=by
 have m:0 <= (cell.fdiv 93).fmod k /\ (cell.fdiv 93).fmod k < k:=⟨vBN _ (vCb.mpr h1),vBS _ (vCb.mpr h1)⟩
 have e1:Yv [some (.int cell,2),some (.int (k:Int),2),none] = some (.next [some (.int cell,2),some (.int (k:Int),2),some (.int ((cell.fdiv 93).fmod k),2)]):=by
  simp -implicitDefEqProofs only [jYT,kI,qGG,Nat.reduceLT,jSZ,jYU,qJV,jRQ,List.set_cons_succ,List.set_cons_zero,Yv,zE _ _ (by exact fun eq=>fZ (lZ [(k:Int)] (.n 1) (.n 0) [(.n 1,.v 0),(.v 0,.n 0)] rT (zL h1) (Int.le_of_eq eq)):(k:Int) ≠ 0)]
 obtain ⟨a,ha⟩:∃ a:Nat,(cell.fdiv 93).fmod k = a:=⟨((cell.fdiv 93).fmod k).toNat,by exact (vCE m.1).symm⟩
 rw [ha] at e1 m
 obtain ⟨b,hb⟩:∃ b:Nat,(k:Int) - 1 - a = b:=⟨((k:Int) - 1 - a).toNat,(vCE (show 0 <= (k:Int) - 1 - a from lZ [_,_] (.n 0) (.s (.s (.v 0) (.n 1)) (.v 1)) [(.a (.v 1) (.n 1),.v 0)] rT m.2)).symm⟩
 have x1:=jCD [97] a (by simp;exact vBd (Nat.lt_trans (vCP (vCb.mp m.2) h2) (by decide))) (Nat.lt_trans (vCP (vCb.mp m.2) h2) (by decide))
 have x2:=jCD [97] b (by simp;exact nL (lZ [(b:Int),(k:Int),(a:Int)] (.v 0) (.n 10000000) [(.v 1,.n 4),(.v 0,.s (.s (.v 1) (.n 1)) (.v 2)),(.n 0,.v 2)] rT (zL h2) (Int.le_of_eq hb.symm) (vBi _))) (nT (lZ [(b:Int),(k:Int),(a:Int)] (.a (.v 0) (.n 1)) (.n 1000000000) [(.v 1,.n 4),(.v 0,.s (.s (.v 1) (.n 1)) (.v 2)),(.n 0,.v 2)] rT (zL h2) (Int.le_of_eq hb.symm) (vBi _)))
 rw [qBH] at x1 x2
 have y1:=zg (List.replicate a 97) [Zb cell] (by simp;exact vAz (vAz (vCb.mp m.2) h2) (by decide))
 have y2:=zg (List.replicate a 97 ++ [Zb cell]) (List.replicate b 97) (by simp;exact nL (lZ [(a:Int),(b:Int),(k:Int)] (.a (.v 0) (.a (.v 1) (.n 1))) (.n 10000000) [(.v 2,.n 4),(.v 1,.s (.s (.v 2) (.n 1)) (.v 0))] rT (zL h2) (Int.le_of_eq hb.symm)))
 refine ⟨List.replicate a 97 ++ [Zb cell] ++ List.replicate b 97,⟨by simp;exact vBr _,by simp;exact nL (lZ [(a:Int),(b:Int),(k:Int)] (.a (.v 0) (.a (.v 1) (.n 1))) (.n 300) [(.v 2,.n 4),(.v 1,.s (.s (.v 2) (.n 1)) (.v 0))] rT (zL h2) (Int.le_of_eq hb.symm)),?_⟩,?_⟩
 ·intro x hx
  simp only [vBK,List.mem_replicate,vBH] at hx
  rcases hx with (⟨_,rfl⟩ | rfl) | ⟨_,rfl⟩
  ·decide
  ·exact jKY _
  ·decide
 ·have hg:Xm 1 [.int cell,.int (k:Int)] = [some (.int cell,2),some (.int (k:Int),2),none]:=rfl
  unfold Qo
  rw [Jm (by rfl),hg]
  unfold jE
  simp -implicitDefEqProofs only [jl,e1,Za,jx,kS,jYU,jYT,qGG,x1,kN,qJU,qJT,zk,y1,kI,jRP,hb,x2,y2,qJS,qET]
  rfl
theorem jHJ (a:Int):Qr [.int a] = some (.ok (.bool true,2)):=by rfl
theorem jUF (ws:Tc) (hl:ws.length <= lim) (hw:∀ w ∈ ws,w.length <= big):X0 [.list (ws.map .str)] = some (.ok (.int (zr ws:Nat),2)):=by
 obtain ⟨w,e⟩:=jUE (fB:=ZZ) (ix:=2) (α:=List Nat) (Wz:=Nat) .str (fun m v=>[some (.list (ws.map .str),0),some (.int (m:Nat),2),v]) (fun m w=>max m w.length) (fun _ _ _=>rfl) ws 0 none (by
  intro l1z a l2z el
  have hm:∀ m:Nat,max (m:Int) (a.length:Int) = ((max m a.length:Nat):Int):=fun m=>by
   rcases Nat.le_total m a.length with q | q
   ·rw [Nat.max_eq_right q,Int.max_eq_right (zL q)]
   ·rw [Nat.max_eq_left q,Int.max_eq_left (zL q)]
  exact ⟨_,by (wp_walk using ZZ,jU _ (hw a (by rw [el];simp)),hm);rfl⟩)
 have e2:ZR [some (.list (ws.map .str),0),some (.int 0,2),none] = some (.next [some (.list (ws.map .str),0),some (.int (zr ws:Nat),2),w]):=by
  unfold ZR
  rw [jA (by (wp_walk using zt _ _ _ hl);rfl)]
  exact e
 have hg:Xm 2 [.list (ws.map D.str)] = [some (.list (ws.map .str),0),none,none]:=rfl
 unfold X0
 rw [Jm (by rfl),hg]
 unfold jo
 (wp_walk using qb,e2,qZ)
 rfl
theorem xd (w:Int) (h:w < 1):Je [.int w] = some (.exc "NoWidth"):=by
 have hg:Xm 0 [.int w] = [some (.int w,2)]:=rfl
 unfold Je
 rw [Jm (by rfl),hg]
 unfold jW
 (wp_walk using jf,h)
 rfl
theorem zD (w:Int) (h:1 <= w):Je [.int w] = some (.ok (.none,2)):=by
 have hg:Xm 0 [.int w] = [some (.int w,2)]:=rfl
 have h:¬ w < 1:=by exact Int.not_lt.mpr h
 unfold Je
 rw [Jm (by rfl),hg]
 unfold jW
 (wp_walk using jf,h)
 rfl
theorem jIR (ws:Tc) (w:Int) (h:w < 1):YF [.list (ws.map .str),.int w] = some (.exc "NoWidth"):=by
 have hg:Xm 1 [.list (ws.map D.str),.int w] = [some (.list (ws.map .str),0),some (.int w,2),none]:=rfl
 unfold YF
 rw [Jm (by rfl),hg]
 unfold qG
 (wp_walk using kx,xd w h)
 rfl
theorem jAR (ws:Tc) (w:Int) (h:1 <= w) (hl:ws.length <= lim) (hw:∀ w ∈ ws,w.length <= big):YF [.list (ws.map .str),.int w] = some (.ok (qMC (jGM ws w),2)):=by
 have hg:Xm 1 [.list (ws.map D.str),.int w] = [some (.list (ws.map .str),0),some (.int w,2),none]:=rfl
 have hlb:ws.length <= big:=by unfold lim at hl;exact vAz hl (by decide)
 unfold YF
 rw [Jm (by rfl),hg]
 unfold qG
 (wp_walk using kx,zD w h)
 unfold ym
 rw [jA (by (wp_walk using JU _ _ hlb,jR _ hl);rfl)]
 have hd:JX [] [some (D.list (ws.map .str),0),some (.int w,2),none] = [some (.list (ws.map .str),0),some (.int w,2),none]:=rfl
 rw [hd]
 rcases vl (fB:=Zj) (ix:=2) (fun (i:Nat)=>D.int (i:Int)) (fun v=>[some (.list (ws.map .str),0),some (.int w,2),v]) (fun i=>decide (w < ((ws.getD i []).length:Int))) (fun i=>(.int (i:Int),2)) (fun _ _=>rfl) (List.range ws.length) none (by
  intro i hi
  have hi:=vBV.mp hi
  have hx:ws[i]? = some (ws.getD i []):=by simp [vBP hi]
  have hlen:=jU _ (hw _ (vBT hx))
  constructor
  ·intro hp
   (wp_walk using Zj,QE D.str ws i _ hx hlb,hlen,hp)
  ·intro hp
   exact ⟨_,by (wp_walk using Zj,QE D.str ws i _ hx hlb,hlen,hp);rfl⟩) with ⟨h1,v,e⟩ | ⟨i,h1,e⟩
 ·rw [e]
  (wp_walk using yk,jGM,h1)
  rfl
 ·rw [e]
  (wp_walk using jGM,h1)
  rfl
theorem jGB (ts:Tc) (hl:ts.length <= lim):XY [.list (ts.map .str),.list (ts.map .str)] = some (.ok (.bool true,2)):=by
 have hg:Xm 1 [.list (ts.map D.str),.list (ts.map D.str)] = [some (.list (ts.map .str),0),some (.list (ts.map .str),0),none]:=rfl
 have hlb:ts.length <= big:=by unfold lim at hl;exact vAz hl (by decide)
 unfold XY
 rw [Jm (by rfl),hg]
 unfold vI
 (wp_walk using xT,JU _ _ hlb)
 unfold xS
 rw [jA (by (wp_walk using JU _ _ hlb,jR _ hl);rfl)]
 have hd:JX [] [some (D.list (ts.map .str),0),some (.list (ts.map .str),0),none] = [some (D.list (ts.map .str),0),some (.list (ts.map .str),0),none]:=rfl
 rw [hd]
 rcases vl (fB:=jt) (ix:=2) (fun (i:Nat)=>D.int (i:Int)) (fun v=>[some (.list (ts.map .str),0),some (.list (ts.map .str),0),v]) (fun _=>false) (fun _=>(.none,2)) (fun _ _=>rfl) (List.range ts.length) none (by
  intro i hi
  have hi:=vBV.mp hi
  have hx:=QE D.str ts i _ (getD_some [] hi) hlb
  exact ⟨fun h=>by (cases h),fun _=>⟨_,by (wp_walk using jt,hx);rfl⟩⟩) with ⟨h1,v,e⟩ | ⟨i,h1,e⟩
 ·rw [e]
  (wp_walk using xR)
  rfl
 ·exact absurd (List.find?_some h1) vCo
theorem ze (ws:Tc) (ss:List Int) (hw:ws.length <= lim) (hs:ss.length <= lim):ZM [.list (ws.map .str),.list (ss.map .int)] = some (.ok (.bool (zv ss ws.length),2)):=by
 have hg:Xm 1 [.list (ws.map D.str),.list (ss.map D.int)] = [some (.list (ws.map .str),0),some (.list (ss.map .int),0),none]:=rfl
 have hwb:ws.length <= big:=by unfold lim at hw;exact vAz hw (by decide)
 have hsb:ss.length <= big:=by unfold lim at hs;exact vAz hs (by decide)
 have hc:=Yh (fE:=jr) (cap:=[]) (Z:=[some (.list (ws.map .str),0),some (.list (ss.map .int),0),none]) D.int (fun _=>.bool true) ss (fun a _=>⟨2,by (wp_walk using jr,YL)⟩)
 have hm:ss.map (fun _=>D.bool true) = (ss.map fun _=>true).map .bool:=by simp
 have ha:(ss.map fun _=>true).all id = true:=by simp
 rw [hm] at hc
 unfold ZM
 rw [Jm (by rfl),hg]
 unfold vH
 (wp_walk using xQ,xP,zt _ _ _ hs,hc,jVG,ha)
 by_cases h1:ws = []
 ·subst h1
  by_cases h2:ss = []
  ·subst h2
   (wp_walk using Xv,ZI,jY,jZ)
   rfl
  ·have:=jUQ h2
   (wp_walk using Xv,ZI,jY,jZ,h2,List.length_nil,this)
   rfl
 ·by_cases h2:ss = []
  ·subst h2
   have:(ws.length == 0) = false:=by simpa using h1
   (wp_walk using Xv,ZI,jY,jZ,h1,zv,this)
   rfl
  ·have hp:0 < ss.length:=vBn.mpr h2
   (wp_walk using Xv,ZI,jY,jZ,h1,h2)
   unfold xO
   have hr:jEU [.int 1,.int (ss.length:Int)] = _:=jSA 1 ss.length (hp) hs
   rw [jA (by (wp_walk using JU _ _ hsb,hr);rfl)]
   have hd:JX [] [some (D.list (ws.map .str),0),some (.list (ss.map .int),0),none] = [some (D.list (ws.map .str),0),some (.list (ss.map .int),0),none]:=rfl
   rw [hd]
   rcases vl (fB:=ZF) (ix:=2) (fun (i:Nat)=>D.int ((1 + i:Nat):Int)) (fun v=>[some (.list (ws.map .str),0),some (.list (ss.map .int),0),v]) (fun i=>decide (ss.getD (1 + i) 0 <= ss.getD i 0)) (fun _=>(.bool false,2)) (fun _ _=>rfl) (List.range (ss.length - 1)) none (by
    intro i hi
    have hi:=vBV.mp hi
    have x1:=QE D.int ss (1 + i) _ (getD_some 0 (show 1 + i < ss.length by exact Nat.add_lt_of_lt_sub' hi)) hsb
    have x2:=QE D.int ss i _ (getD_some 0 (show i < ss.length by exact vCP hi (Nat.sub_le ..))) hsb
    have x3:((1 + i:Nat):Int) - 1 = (i:Int):=by exact Int.le_antisymm (lZ [(i:Int)] (.s (.a (.n 1) (.v 0)) (.n 1)) (.v 0) [] rT) (lZ [(i:Int)] (.v 0) (.s (.a (.n 1) (.v 0)) (.n 1)) [] rT)
    constructor
    ·intro hp
     (wp_walk using ZF,x1,x3,x2,hp)
    ·intro hp
     exact ⟨_,by (wp_walk using ZF,x1,x3,x2,hp);rfl⟩) with ⟨h3,v,e⟩ | ⟨i,h3,e⟩
   ·rw [e]
    have x0:JL [.list (ss.map .int),.int 0] = _:=QE D.int ss 0 _ (getD_some 0 hp) hsb
    have xl:=zs (ss.map D.int) (.int (ss.getLast?.getD 0)) (by rw [List.getLast?_map,getElem?_getD_some 0 h2];rfl) (by rw [vBF];exact hsb)
    have hds:jAZ ss = none:=h3
    unfold zv
    rw [if_neg h2,hds]
    cases h4:(ss.getD 0 0 == 0)
    ·(wp_walk using jg,x0,h4)
     rfl
    ·(wp_walk using jg,x0,h4,xl,JU _ _ hwb)
     show some (R.ok _) = some (R.ok _);simp
   ·rw [e]
    have hds:jAZ ss = some i:=h3
    unfold zv
    rw [if_neg h2,hds]
    wp_walk using kI
    show some (R.ok _) = some (R.ok _);simp
theorem jFD (ws:Tc) (ss:List Int) (hw:ws.length <= lim) (hs:ss.length <= lim):Yk [.list (ws.map .str),.list (ss.map .int)] = if zv ss ws.length then some (.ok (.none,2)) else some (.exc "NoStarts"):=by
 have hg:Xm 0 [.list (ws.map D.str),.list (ss.map D.int)] = [some (.list (ws.map .str),0),some (.list (ss.map .int),0)]:=rfl
 unfold Yk
 rw [Jm (by rfl),hg]
 unfold qF
 cases h:zv ss ws.length
 ·(wp_walk using Zy,ze ws ss hw hs,h)
  rfl
 ·(wp_walk using Zy,ze ws ss hw hs,h)
  rfl
theorem jMU (ws:Tc) (ss:List Int) (hw:ws.length <= 1000000) (hs:ss.length <= 1000000):jL [.list (ws.map .str),.list (ss.map .int)] = some (.ok (.list ((List.range ss.length).map fun k=>.tup [.int (ss.getD k 0),.int ((ql ss ws.length).getD k 0)]),vg ((List.range ss.length).map fun k=>.tup [.int (ss.getD k 0),.int ((ql ss ws.length).getD k 0)]))):=by
 have hg:Xm 1 [.list (ws.map D.str),.list (ss.map D.int)] = [some (.list (ws.map .str),0),some (.list (ss.map .int),0),none]:=rfl
 have hwb:ws.length <= big:=xr (by assumption)
 have hsb:ss.length <= big:=xr (by assumption)
 have hsl:ss.length <= lim:=jIT (by assumption)
 have hc:=Yh (fE:=qL) (cap:=[1,2]) (Z:=[some (.list (ws.map .str),0),some (.list (ss.map .int),0),some (.list ((Jf ss (some 1) none ++ [(ws.length:Int)]).map .int),2)]) (fun (i:Nat)=>D.int (i:Int)) (fun k=>.tup [.int (ss.getD k 0),.int ((ql ss ws.length).getD k 0)]) (List.range ss.length) (by
  intro i hi
  have x1:=QE D.int ss i _ (getD_some 0 (vBV.mp hi)) hsb
  have x2:JL [.list ((Jf ss (some 1) none ++ [(ws.length:Int)]).map .int),.int (i:Int)] = _:=QE D.int (ql ss ws.length) i _ (getD_some 0 (by rw [zN];exact vCP (vBV.mp hi) (Nat.le_add_of_sub_le (Nat.le_of_lt_succ (vCd _))))) (by rw [zN];exact vAz (vCf (vAz (Nat.sub_le ..) hs) _) (by decide):(ql ss ws.length).length <= big)
  exact ⟨2,by (wp_walk using qL,YL,List.map_cons,List.map_nil,List.getElem?_cons_zero,List.getElem?_cons_succ,Option.join_some,x1,x2,jCS)⟩)
 unfold jL
 rw [Jm (by rfl),hg]
 unfold yP
 (wp_walk using yq,xi _ _ _ hsl,JU _ _ hwb,jLN,(jGY (Jf ss (some 1) none) (ws.length:Int) (vAz (vCf (vAz (Zm ss (some 1) none) hs) _) (by decide))),yp,JU _ _ hsb,jR _ hsl,hc)
 rfl
theorem jPB (ws:Tc) (ss:List Int) (hl:ws.length <= 2000) (hw:∀ w ∈ ws,w.length <= 1000) (hs:ss.length <= 1000000):kj [.list (ws.map .str),.list (ss.map .int)] = if zv ss ws.length then some (.ok (.list ((kd ws ss).map .str),2)) else some (.exc "NoStarts"):=by
 have hg:Xm 0 [.list (ws.map D.str),.list (ss.map D.int)] = [some (.list (ws.map .str),0),some (.list (ss.map .int),0)]:=rfl
 have hsl:ss.length <= lim:=jIT (by assumption)
 have hn:=jFD ws ss (by exact jGN (by assumption):ws.length <= lim) hsl
 unfold kj
 rw [Jm (by rfl),hg]
 unfold zz
 cases h:zv ss ws.length
 ·rw [h] at hn
  (wp_walk using qu,hn)
  rfl
 ·rw [h] at hn
  have hc:=Yh (fE:=vL) (cap:=[0]) (Z:=[some (.list (ws.map .str),0),some (.list (ss.map .int),0)]) (fun (k:Nat)=>D.tup [.int (ss.getD k 0),.int ((ql ss ws.length).getD k 0)]) (fun k=>.str (qk [32] (Jf ws (some (ss.getD k 0)) (some ((ql ss ws.length).getD k 0))))) (List.range ss.length) (by
   intro i hi
   exact ⟨2,by (wp_walk using vL,YL,List.map_cons,List.map_nil,List.getElem?_cons_zero,Option.join_some,Yp _ _ _ (by exact jGN (by assumption):ws.length <= lim),jGP _ _ (jCV _ _ hl hw))⟩)
  have hm:(List.range ss.length).map (fun k=>D.str (qk [32] (Jf ws (some (ss.getD k 0)) (some ((ql ss ws.length).getD k 0))))) = (kd ws ss).map .str:=by
   unfold kd;rw [vCJ];rfl
  rw [hm,zF] at hc
  (wp_walk using qu,hn,jAO,jMU ws ss (lN [_] (.v 0) (.n 1000000) [(.v 0,.n 2000)] rT hl) hs,(zt (fun (k:Nat)=>D.tup [.int (ss.getD k 0),.int ((ql ss ws.length).getD k 0)]) (List.range ss.length) (vg ((List.range ss.length).map fun k=>.tup [.int (ss.getD k 0),.int ((ql ss ws.length).getD k 0)])) (by rw [vCB];exact hsl)),hc)
  rfl
theorem jFC (ws:Tc) (w:Int) (h:w < 1):Jt [.list (ws.map .str),.int w] = some (.exc "NoWidth"):=by
 have hg:Xm 0 [.list (ws.map D.str),.int w] = [some (.list (ws.map .str),0),some (.int w,2)]:=rfl
 unfold Jt
 rw [Jm (by rfl),hg]
 unfold ZJ
 (wp_walk using Y6,jIR ws w h)
 rfl
theorem jDJ (ws:Tc) (w:Int) (h:1 <= w) (hl:ws.length <= lim) (hw:∀ w ∈ ws,w.length <= big) (hb:¬ ∀ x ∈ ws,(x.length:Int) <= w):Jt [.list (ws.map .str),.int w] = some (.exc "LongWord"):=by
 have hg:Xm 0 [.list (ws.map D.str),.int w] = [some (.list (ws.map .str),0),some (.int w,2)]:=rfl
 have hlw:=jAR ws w h hl hw
 unfold Jt
 rw [Jm (by rfl),hg]
 unfold ZJ
 cases hq:jGM ws w with
 | none=>exact absurd (longAt_none.mp hq) hb
 | some i =>
  rw [hq] at hlw
  (wp_walk using Y6,hlw,qMC,jIW)
  rfl
theorem qD (ws:Tc) (w:Int) (h:1 <= w) (hl:ws.length <= lim) (hw:∀ w ∈ ws,w.length <= big) (hb:∀ x ∈ ws,(x.length:Int) <= w):Jt [.list (ws.map .str),.int w] = some (.ok (.none,2)):=by
 have hg:Xm 0 [.list (ws.map D.str),.int w] = [some (.list (ws.map .str),0),some (.int w,2)]:=rfl
 have hlw:=jAR ws w h hl hw
 rw [longAt_none.mpr hb] at hlw
 unfold Jt
 rw [Jm (by rfl),hg]
 unfold ZJ
 (wp_walk using Y6,hlw,qMC,jFG)
 rfl
theorem jKN (ss:List Int) (hs:ss.length <= lim):Qw [.list (ss.map .int)] = some (.ok (.bool true,2)):=by
 have hg:Xm 1 [.list (ss.map D.int)] = [some (.list (ss.map .int),0),none]:=rfl
 unfold Qw
 rw [Jm (by rfl),hg]
 unfold qI
 (wp_walk using vA)
 unfold q9
 rw [jA (by (wp_walk using zt _ _ _ hs);rfl)]
 have hd:JX [0] [some (.list (ss.map .int),0),none] = [some (.list (ss.map .int),0),none]:=rfl
 rw [hd]
 rcases vl (fB:=jI) (ix:=1) D.int (fun v=>[some (.list (ss.map .int),0),v]) (fun _=>false) (fun _=>(.none,2)) (fun _ _=>rfl) ss none (by
  intro i hi
  exact ⟨fun h=>by (cases h),fun _=>⟨_,by (wp_walk using jI,jHJ);rfl⟩⟩) with ⟨h1,v,e⟩ | ⟨i,h1,e⟩
 ·rw [e]
  (wp_walk using q0)
  rfl
 ·exact absurd (List.find?_some h1) vCo
def sI (ws:Tc) (a:Nat) (i:Nat):Int:=Nat.casesOn i (-1) fun i=>(sz ws a (a + 1 + i):Int)
theorem zm {a:Nat} (h:a + i < ws.length):sI ws a i + 1 + ((ws.getD (a + i) []).length:Int) = sI ws a (i + 1):=by
 cases i with
 | zero=>have:sz ws a (a + 1) = _:=qDV ws h;show (-1:Int) + 1 + _ = ((sz ws a (a + 1):Nat):Int);rw [this];exact Int.zero_add _
 | succ i=>have:=qFC ws (show a < a + 1 + i from vBW ..) (show a + 1 + i < ws.length from Nat.add_right_comm a 1 i ▸ h);show (sz ws a (a + 1 + i):Int) + 1 + _ = ((sz ws a (a + 1 + i + 1):Nat):Int);rw [this,Nat.add_right_comm a 1 i];rfl
theorem jTK {a:Nat} (hl:ws.length <= 2000) (h:a + i < ws.length):JL [.list (ws.map .str),.int (((a + 1 + i:Nat):Int) - 1)] = some (.ok (.str (ws.getD (a + i) []),0)):=by
 rw [show ((a + 1 + i:Nat):Int) - 1 = ((a + i:Nat):Int) by exact Int.le_antisymm (lZ [(a:Int),(i:Int)] (.s (.a (.a (.v 0) (.n 1)) (.v 1)) (.n 1)) (.a (.v 0) (.v 1)) [] rT) (lZ [(a:Int),(i:Int)] (.a (.v 0) (.v 1)) (.s (.a (.a (.v 0) (.n 1)) (.v 1)) (.n 1)) [] rT)];exact QE D.str ws (a + i) _ (getD_some [] h) (Z9 hl)
theorem jFY (hw:∀ w ∈ ws,w.length <= 1000) (h:k < ws.length):YA [.str (ws.getD k [])] = some (.ok (.int ((ws.getD k []).length:Nat),2)) :=
 jU _ (vAz (hw _ (vBT (getD_some [] h))) (by decide))
theorem jWY {a:Nat} (hl:ws.length <= 2000) (ha:a < ws.length):jEU [.int ((a:Int) + 1),.int ((ws.length:Int) + 1)] = some (.ok ((List.range (ws.length - a)).map fun (i:Nat)=>.int ((a + 1 + i:Nat):Int))):=by
 have:=jSA (a + 1) (ws.length + 1) (Nat.lt_succ_of_lt ha) (jIT (vBh hl (by decide)))
 rw [show ws.length + 1 - (a + 1) = ws.length - a from Nat.add_sub_add_right ..] at this
 exact this
theorem jJM {a:Nat} (P:G -> Prop) (st:Nat -> Option (D × Nat) -> G) (hst:∀ i v w,(st i v).set ix w = st i w) (v:Option (D × Nat))
  (hs:∀ i,i < zJ ws w a -> a + i < ws.length -> (sz ws a (a + 1 + i):Int) <= w -> fB (st i (some (.int ((a + 1 + i:Nat):Int),2))) = some (.next (st (i + 1) (some (.int ((a + 1 + i:Nat):Int),2)))))
  (hb:∀ i,i = zJ ws w a -> a + i < ws.length -> w < (sz ws a (a + 1 + i):Int) -> ∃ Z,P Z /\ fB (st i (some (.int ((a + 1 + i:Nat):Int),2))) = some (.brk Z)) (he:∀ v,P (st (zJ ws w a) v)) :
  ∃ Z,P Z /\ Ym fB ix ((List.range (ws.length - a)).map fun (i:Nat)=>D.int ((a + 1 + i:Nat):Int)) (st 0 v) = some (.next Z):=by
 by_cases hlt:zJ ws w a < ws.length - a
 ·obtain ⟨Z,p,e⟩:=hb _ rfl (Nat.add_lt_of_lt_sub' hlt) (jJN hlt)
  exact ⟨Z,p,jDM _ st hst _ _ v hlt (fun i hi=>⟨_,hs i hi (Nat.add_lt_of_lt_sub' (Nat.lt_trans hi hlt)) (jPS hi)⟩) e⟩
 ·have h:=vCI (zx ws w a) (vBy hlt)
  obtain ⟨v,e⟩:=jDN (fB:=fB) (ix:=ix) (fun (i:Nat)=>D.int ((a + 1 + i:Nat):Int)) st hst (ws.length - a) v (fun i hi=>⟨_,hs i (h ▸ hi) (Nat.add_lt_of_lt_sub' hi) (jPS (h ▸ hi))⟩)
  exact ⟨_,h ▸ he v,e⟩
def Prc (w z e n te c:Int):Prop:=∃ p q r:Int,jOU [.int (w - z),.int 2] = some (.ok (.int p,2)) /\ (if decide (e < n) then (1:Int) else 0) = q /\ jBG [.int p,.int q] = some (.ok (.int r,2)) /\ te + r = c
theorem qFG {a:Nat} (hl:ws.length <= 2000) (hw:∀ w ∈ ws,w.length <= 1000) (hwb:w.natAbs <= 1000000000000000000000000000000000000) (h:a + i < ws.length):(w - (sz ws a (a + 1 + i):Nat)).natAbs < 10000000000000000000000000000000000000000:=by
 have h:=qLS (ws:=ws) (show a <= a + 1 + i from vBd (vBW ..)) (by rw [Nat.add_right_comm];exact h) hl hw
 generalize (sz ws a (a + 1 + i)) = z at h ⊢
 clear hl hw
 exact vBh (Int.natAbs_sub_le _ _) (vBh (vCp hwb h) (by decide))
theorem qEB {a:Nat} (hl:ws.length <= 2000) (hw:∀ w ∈ ws,w.length <= 1000) (hwb:w.natAbs <= 1000000000000000000000000000000000000) (hT0:T.getD ws.length 0 = 0) (h:a + i < ws.length) :
  Prc w (sz ws a (a + 1 + i):Nat) ((a + 1 + i:Nat):Int) ws.length (T.getD (a + 1 + i) 0) (yT ws w T a (a + 1 + i)):=by
 unfold yT
 by_cases he:a + 1 + i = ws.length
 ·exact ⟨_,0,_,(jXM (w - (sz ws a (a + 1 + i):Nat)) (qFG hl hw hwb h)),if_neg (by rw [he];simp),jCE _ _ (jDK _ _ (by decide)),by rw [if_pos he,he,hT0,Int.mul_zero];rfl⟩
 ·exact ⟨_,1,_,(jXM (w - (sz ws a (a + 1 + i):Nat)) (qFG hl hw hwb h)),if_pos (vBk (vCb.mpr (Nat.lt_of_le_of_ne (by rw [Nat.add_right_comm];exact h) he))),jCE _ _ (jDK _ _ (by decide)),by rw [if_neg he,Int.mul_one,Int.add_comm]⟩
section
variable {W T L:List D} {s e a n l c s':Int} {x:List Nat} {v:Option (D × Nat)}
theorem qFI (x1:JL [.list W,.int (e - 1)] = some (.ok (.str x,0))) (x2:YA [.str x] = some (.ok (.int l,2))) (x4:s + 1 + l = s') (x5:¬ w < s') (xl:YA [.list W] = some (.ok (.int n,2))) (hL:L.length <= lim)
  (hc:(e == n) = true /\ 0 = c \/ (e == n) = false /\ ∃ p te:Int,jBG [.int (w - s'),.int (w - s')] = some (.ok (.int p,2)) /\ JL [.list T,.int e] = some (.ok (.int te,0)) /\ p + te = c) :
  Qv [some (.list W,0),some (.int w,2),some (.list T,0),some (.int a,2),some (.list L,2),some (.int s,2),some (.int e,2)] = some (.next [some (.list W,0),some (.int w,2),some (.list T,0),some (.int a,2),some (.list (L ++ [.tup [.int e,.int c]]),2),some (.int s',2),some (.int e,2)]):=by
 rcases hc with ⟨h,rfl⟩ | ⟨h,p,te,y1,y2,y3⟩
 ·(wp_walk using Qv,x1,x2,x4,x5,xl,h,(zf (occ:=[6]) (i:=4) (f:=qR) (Z:=[some (.list W,0),some (.int w,2),some (.list T,0),some (.int a,2),some (.list L,2),some (.int s',2),some (.int e,2)]) rfl (by decide) hL (d:=.tup [.int e,.int 0]) (lv':=2) (by (wp_walk using qR,jCS)) rfl))
 ·(wp_walk using Qv,x1,x2,x4,x5,xl,h,(zf (occ:=[6,1,5,1,5,2,6]) (i:=4) (f:=qQ) (Z:=[some (.list W,0),some (.int w,2),some (.list T,0),some (.int a,2),some (.list L,2),some (.int s',2),some (.int e,2)]) rfl (by decide) hL (d:=.tup [.int e,.int c]) (lv':=2) (by (wp_walk using qQ,y1,y2,y3,jCS)) rfl))
theorem qIQ (x1:JL [.list W,.int (e - 1)] = some (.ok (.str x,0))) (x2:YA [.str x] = some (.ok (.int l,2))) (x4:s + 1 + l = s') (x5:w < s') :
  Qv [some (.list W,0),some (.int w,2),some (.list T,0),some (.int a,2),v,some (.int s,2),some (.int e,2)] = some (.brk [some (.list W,0),some (.int w,2),some (.list T,0),some (.int a,2),v,some (.int s',2),some (.int e,2)]):=by
 (wp_walk using Qv,x1,x2,x4,x5)
end
theorem jAI (ws:Tc) (w:Int) (T:List Int) (a:Nat) (hl:ws.length <= 2000) (hw:∀ w ∈ ws,w.length <= 1000) (hwb:w.natAbs <= 1000000000000000000000000000000000000) (hT:T.length = ws.length + 1) (ha:a < ws.length) :
  YE [.list (ws.map .str),.int w,.list (T.map .int),.int (a:Int)] = some (.ok (.list ((ZG ws w T a).map jIK),2)):=by
 obtain ⟨Z,⟨s,v,p⟩,e⟩:=jJM (ws:=ws) (w:=w) (a:=a) (fB:=Qv) (ix:=6) (fun Z=>∃ s v,Z = [some (.list (ws.map .str),0),some (.int w,2),some (.list (T.map .int),0),some (.int (a:Int),2),some (.list ((ZG ws w T a).map jIK),2),some (.int s,2),v])
  (fun i v=>[some (.list (ws.map .str),0),some (.int w,2),some (.list (T.map .int),0),some (.int (a:Int),2),some (.list (((List.range i).map fun i=>(a + 1 + i,yT ws w T a (a + 1 + i))).map jIK),2),some (.int (sI ws a i),2),v]) (fun _ _ _=>rfl) none
  (fun i hi h hle=>by
   rw [vCQ,vBv,vBv]
   refine qFI (jTK hl h) (jFY hw h) (zm h) (Int.not_lt.mpr hle) (JU D.str ws (Z9 hl)) (by rw [vBF,vBF,vCB];exact jGN (vAz (Nat.le_add_left ..) (vAz (vBd h) hl))) ?_
   unfold yT
   by_cases he:a + 1 + i = ws.length
   ·exact .inl ⟨by rw [he];exact beq_self_eq_true _,(if_pos he).symm⟩
   ·exact .inr ⟨beq_false_of_ne fun q=>he (Int.ofNat.inj q),_,_,jCE _ _ (qCA (qFG hl hw hwb h)),QE D.int T (a + 1 + i) _ (getD_some 0 (hT ▸ Nat.lt_succ_of_le (by rw [Nat.add_right_comm];exact h:a + 1 + i <= ws.length))) (hT ▸ xr (vBh hl (by decide)):T.length <= big),(if_neg he).symm⟩)
  (fun i hi h hout=>by
   subst hi
   exact ⟨_,⟨_,_,rfl⟩,qIQ (jTK hl h) (jFY hw h) (zm h) hout⟩)
  (fun v=>⟨_,_,rfl⟩)
 rw [p] at e
 have e3:yg [some (.list (ws.map .str),0),some (.int w,2),some (.list (T.map .int),0),some (.int (a:Int),2),some (.list [],2),some (.int (-1),2),none] = _:=(jA (by (wp_walk using (JU D.str ws (Z9 hl)),jWY hl ha))).trans e
 unfold YE
 rw [Jm (by rfl),show Xm 3 [.list (ws.map D.str),.int w,.list (T.map D.int),.int (a:Int)] = [some (.list (ws.map .str),0),some (.int w,2),some (.list (T.map .int),0),some (.int (a:Int),2),none,none,none] from rfl]
 unfold yB
 (wp_walk using yj,ZI,yh,e3,yf)
 rfl
theorem jCU (ws:Tc) (w:Int) (h:1 <= w) (hl:ws.length <= 2000) (hw:∀ w ∈ ws,w.length <= 1000) (hwb:w.natAbs <= 1000000000000000000000000000000000000) (hb:∀ x ∈ ws,(x.length:Int) <= w):Yx [.list (ws.map .str),.int w] = some (.ok (.list ((tab ws w).map .int),2)):=by
 have hg:Xm 2 [.list (ws.map D.str),.int w] = [some (.list (ws.map .str),0),some (.int w,2),none,none]:=rfl
 have hll:ws.length <= lim:=jGN (by assumption)
 have hlb:ws.length <= big:=Z9 (by assumption)
 have hc:=Yh (fE:=vK) (cap:=[]) (Z:=[some (.list (ws.map .str),0),some (.int w,2),none,none]) (fun (i:Nat)=>D.int (i:Int)) (fun _=>.int 0) (List.range (ws.length + 1)) (fun i _=>⟨2,rfl⟩)
 have hm:(List.range (ws.length + 1)).map (fun _=>D.int 0) = (jBD ws w 0).map .int:=by
  rw [List.map_const',vCB];simp [jBD]
 rw [hm,kc] at hc
 have hr0:jEU [.int ((ws.length:Int) + 1)] = _:=jR (ws.length + 1) (vBh hl (by decide))
 obtain ⟨v,e⟩:=jDN (fB:=vP) (ix:=3) (fun (i:Nat)=>D.int (((ws.length:Int) - 1) - i)) (fun i v=>[some (.list (ws.map .str),0),some (.int w,2),some (.list ((jBD ws w i).map .int),2),v]) (fun _ _ _=>rfl) ws.length none (by
  intro i hi
  have ha:ws.length - 1 - i < ws.length:=by exact lN [_,_,_] (.a (.v 0) (.n 1)) (.v 1) [(.a (.v 2) (.n 1),.v 1),(.v 0,.v 2)] rT (sB (lN [_,_] (.n 1) (.v 0) [(.a (.v 1) (.n 1),.v 0)] rT hi)) (Nat.sub_le ..)
  have hs:=jAI ws w (jBD ws w i) (ws.length - 1 - i) hl hw hwb (yc ws w i) ha
  generalize hS:ZG ws w (jBD ws w i) (ws.length - 1 - i) = S at hs
  have hSne:S.map (·.2) ≠ []:=by
   rw [<- hS];unfold ZG
   intro e
   have:=congrArg List.length e
   simp at this;exact absurd this (Nat.ne_of_gt (jSU ha hb))
  have hc2:=Yh (fE:=vJ) (cap:=[]) (Z:=[some (.list (ws.map .str),0),some (.int w,2),some (.list ((jBD ws w i).map .int),2),some (.int ((ws.length - 1 - i:Nat):Int),2)]) jIK (fun p=>.int p.2) S (fun p _=>⟨0,by (wp_walk using vJ,YL,jIK)⟩)
  rw [(by rw [vCJ];rfl:S.map (fun p=>D.int p.2) = (S.map (·.2)).map .int),kc] at hc2
  have hset:=jWQ (occ:=[0,1,2,3]) (i:=2) (f:=vQ) (g:=fun Z=>JH 3 Z) (Z:=[some (.list (ws.map .str),0),some (.int w,2),some (.list ((jBD ws w i).map .int),2),some (.int ((ws.length - 1 - i:Nat):Int),2)]) rfl (by decide) (by rw [vBF,(yc ws w i)];exact lN [_] (.a (.v 0) (.n 1)) (.n 10000000) [(.v 0,.n 2000)] rT hl) (d:=.int (jYA (S.map (·.2)))) (lv':=2) (by (wp_walk using vQ,hs,zt _ _ _ (by rw [<- hS];unfold ZG;rw [vBF,vCB];exact vAz (vAz (vAz (zx ws w (ws.length - 1 - i)) (Nat.sub_le ..)) hl) (by decide):S.length <= lim),hc2,jYB _ hSne)) rfl (k:=ws.length - 1 - i) (lv'':=0) rfl (by rw [vBF,(yc ws w i)];exact lN [_,_] (.a (.v 0) (.n 1)) (.a (.v 1) (.n 1)) [(.a (.v 0) (.n 1),.v 1)] rT ha)
  have hm3:((jBD ws w i).map D.int).set (ws.length - 1 - i) (.int (jYA (S.map (·.2)))) = (jBD ws w (i + 1)).map .int:=by
   rw [jBD,jTN,hS,List.map_set]
  rw [hm3] at hset
  rw [(by rw [Nat.sub_sub,Int.ofNat_sub (by rw [Nat.add_comm];exact hi),Int.sub_sub];rfl:((ws.length:Int) - 1) - i = ((ws.length - 1 - i:Nat):Int))]
  exact ⟨_,by (wp_walk using vP,hset);rfl⟩)
 have e3:qs [some (.list (ws.map .str),0),some (.int w,2),some (.list ((jBD ws w 0).map .int),2),none] = some (.next [some (.list (ws.map .str),0),some (.int w,2),some (.list ((tab ws w).map .int),2),v]):=by
  unfold qs
  rw [jA (by (wp_walk using JU _ _ hlb,jWZ _ hll);rfl)]
  exact e
 unfold Yx
 rw [Jm (by rfl),hg]
 unfold zy
 (wp_walk using jAN,qD ws w h hll (fun x hx=>by exact vAz (hw x hx) (by decide):∀ w ∈ ws,w.length <= big) hb,jAM,JU _ _ hlb,hr0)
 rw [show jN vK (fun _=>some (.ok true)) [] [some (.list (ws.map .str),0),some (.int w,2),none,none] ((List.range (ws.length + 1)).map fun (i:Nat)=>D.int (i:Int)) = _ from hc]
 (wp_walk using e3,jAL)
 rfl
section
variable {W T:List D} {s e a n l te ta c s':Int} {x:List Nat} {m:Bool} {z v:Option (D × Nat)} {L:D × Nat}
theorem qFA (x1:JL [.list W,.int (e - 1)] = some (.ok (.str x,0))) (x2:YA [.str x] = some (.ok (.int l,2))) (x4:s + 1 + l = s') (x5:¬ w < s') (xl:YA [.list W] = some (.ok (.int n,2))) (y1:JL [.list T,.int e] = some (.ok (.int te,0))) (xa:JL [.list T,.int a] = some (.ok (.int ta,0))) (hp:Prc w s' e n te c) (y3:¬ c < ta) :
  Jo [some (.list W,0),some (.int w,2),some (.list T,0),some (.int a,2),some (.int s,2),some (.bool m,2),some (.int e,2),z] = some (.next [some (.list W,0),some (.int w,2),some (.list T,0),some (.int a,2),some (.int s',2),some (.bool (m || (ta == c)),2),some (.int e,2),some (.int c,2)]):=by
 obtain ⟨p,q,r,y2,hq,y4,hc⟩:=hp
 cases m <;> (wp_walk using Jo,x1,x2,x4,x5,y1,y2,xl,hq,y4,hc,xa,y3,Bool.false_or,Bool.true_or)
theorem qIM (x1:JL [.list W,.int (e - 1)] = some (.ok (.str x,0))) (x2:YA [.str x] = some (.ok (.int l,2))) (x4:s + 1 + l = s') (x5:w < s') :
  Jo [some (.list W,0),some (.int w,2),some (.list T,0),some (.int a,2),some (.int s,2),v,some (.int e,2),z] = some (.brk [some (.list W,0),some (.int w,2),some (.list T,0),some (.int a,2),some (.int s',2),v,some (.int e,2),z]):=by
 (wp_walk using Jo,x1,x2,x4,x5)
end
theorem qFB (hl:ws.length <= 2000) (hw:∀ w ∈ ws,w.length <= 1000) (hwb:w.natAbs <= 1000000000000000000000000000000000000) (hR:jNF ws w T) (a:Nat) (y4 y5 y6 y7:Option (D × Nat)) (ha:a < ws.length):∃ z4 z5 z6 z7,Qf [some (.list (ws.map .str),0),some (.int w,2),some (.list (T.map .int),0),some (.int (a:Int),2),y4,y5,y6,y7] =
   some (.next [some (.list (ws.map .str),0),some (.int w,2),some (.list (T.map .int),0),some (.int (a:Int),2),z4,z5,z6,z7]):=by
 obtain ⟨hT,hT0,hRt⟩:=hR
 obtain ⟨hge,i0,hi0,hmet⟩:=hRt a ha
 obtain ⟨Z,⟨s,v,z,p⟩,e⟩:=jJM (w:=w) (a:=a) (fB:=Jo) (ix:=6) (fun Z=>∃ s v z,Z = [some (.list (ws.map .str),0),some (.int w,2),some (.list (T.map .int),0),some (.int (a:Int),2),some (.int s,2),some (.bool true,2),v,z])
  (fun i v=>[some (.list (ws.map .str),0),some (.int w,2),some (.list (T.map .int),0),some (.int (a:Int),2),some (.int (sI ws a i),2),some (.bool ((List.range i).any (isB ws w T a)),2),v,Nat.casesOn i y7 fun i=>some (.int (yT ws w T a (a + 1 + i)),2)]) (fun _ _ _=>rfl) y6
  (fun i hi h hle=>by
   rw [vCQ,List.any_append,List.any_cons,List.any_nil,Bool.or_false]
   exact qFA (jTK hl h) (jFY hw h) (zm h) (Int.not_lt.mpr hle) (JU D.str ws (Z9 hl)) (QE D.int T (a + 1 + i) _ (getD_some 0 (by rw [hT,Nat.add_right_comm];exact Nat.succ_lt_succ h)) (hT ▸ xr (vBh hl (by decide)):T.length <= big)) (QE D.int T a _ (getD_some 0 (hT ▸ Nat.lt_succ_of_lt ha)) (hT ▸ xr (vBh hl (by decide)):T.length <= big)) (qEB hl hw hwb hT0 h) (Int.not_lt.mpr (hge i hi)))
  (fun i hi h hout=>by
   subst hi
   rw [show (List.range (zJ ws w a)).any (isB ws w T a) = true from List.any_eq_true.mpr ⟨i0,vBV.mpr hi0,vBc.mpr hmet⟩]
   exact ⟨_,⟨_,_,_,rfl⟩,qIM (jTK hl h) (jFY hw h) (zm h) hout⟩)
  (fun v=>by
   rw [show (List.range (zJ ws w a)).any (isB ws w T a) = true from List.any_eq_true.mpr ⟨i0,vBV.mpr hi0,vBc.mpr hmet⟩]
   exact ⟨_,_,_,rfl⟩)
 rw [p] at e
 refine ⟨some (.int s,2),some (.bool true,2),v,z,?_⟩
 (wp_walk using Qf,((jA (by (wp_walk using Xl,(JU D.str ws (Z9 hl)),jWY hl ha))).trans e:jLT [] 6 Xl Jo [some (.list (ws.map .str),0),some (.int w,2),some (.list (T.map .int),0),some (.int (a:Int),2),some (.int (-1),2),some (.bool false,2),y6,y7] = _))
theorem jEW (ws:Tc) (w:Int) (T:List Int) (hl:ws.length <= 2000) (hw:∀ w ∈ ws,w.length <= 1000) (hwb:w.natAbs <= 1000000000000000000000000000000000000) (hR:jNF ws w T) :
  Qa [.list (ws.map .str),.int w,.list (T.map .int)] = some (.ok (.bool true,2)):=by
 have hT:=hR.1
 have hT0:=hR.2.1
 have hg:Xm 5 [.list (ws.map D.str),.int w,.list (T.map D.int)] = [some (.list (ws.map .str),0),some (.int w,2),some (.list (T.map .int),0),none,none,none,none,none]:=rfl
 have hTb:T.length <= big:=hT ▸ xr (vBh hl (by decide))
 have hTne:T ≠ []:=fun e=>by subst e;simp at hT
 have xl:=zs (T.map D.int) (.int (T.getLast?.getD 0)) (by rw [List.getLast?_map,getElem?_getD_some 0 hTne];rfl) (by rw [vBF];exact hTb)
 have hlast:T.getLast?.getD 0 = 0:=by
  rw [vCM,hT];rw [vBJ] at hT0;exact hT0
 rw [hlast] at xl
 have hne:((T.length:Int) == (ws.length:Int) + 1) = true:=by rw [hT];simp
 have yl:=JU D.str ws (Z9 hl)
 have yw:=jKN T (hT ▸ jIT (vBh hl (by decide)))
 have e2:∃ z3 z4 z5 z6 z7,Xj [some (.list (ws.map .str),0),some (.int w,2),some (.list (T.map .int),0),none,none,none,none,none] = some (.next [some (.list (ws.map .str),0),some (.int w,2),some (.list (T.map .int),0),z3,z4,z5,z6,z7]):=by
  unfold Xj
  rw [jA (by (wp_walk using yl,jR _ (jGN hl));rfl)]
  obtain ⟨Z',h1,h2⟩:=jYH (α:=Unit) (fB:=Qf) (ix:=3) (fun _ Z=>∃ z3 z4 z5 z6 z7,Z = [some (.list (ws.map .str),0),some (.int w,2),some (.list (T.map .int),0),z3,z4,z5,z6,z7]) ((List.range ws.length).map fun (i:Nat)=>D.int (i:Int)) 0 [some (.list (ws.map .str),0),some (.int w,2),some (.list (T.map .int),0),none,none,none,none,none] ⟨_,_,_,_,_,rfl⟩ (by
   rintro i Z x hx ⟨z3,z4,z5,z6,z7,rfl⟩
   have hi:i < ws.length:=by
    have:=(vBY.mp hx).1
    rw [vBF,vCB] at this;exact this
   rw [vBg,List.getElem?_range hi] at hx
   obtain ⟨u4,u5,u6,u7,e⟩:=qFB hl hw hwb hR i z4 z5 z6 z7 hi
   have hx:D.int (i:Int) = x:=vAy hx
   subst hx
   exact ⟨_,e,_,_,_,_,_,rfl⟩)
  obtain ⟨z3,z4,z5,z6,z7,rfl⟩:=h2
  exact ⟨_,_,_,_,_,h1⟩
 obtain ⟨z3,z4,z5,z6,z7,e2⟩:=e2
 unfold Qa
 rw [Jm (by rfl),hg]
 unfold YX
 (wp_walk using Zd,yw,(JU D.int T hTb),yl,hne,xl,e2,Zc)
 rfl
theorem qHL (ws:Tc) (w:Int) (T:List Int) (hl:ws.length <= 2000) (hw:∀ w ∈ ws,w.length <= 1000) (hwb:w.natAbs <= 1000000000000000000000000000000000000) (hR:jNF ws w T):∀ (k fuel a:Nat) (acc:List Nat),ws.length - a <= k -> k + 1 <= fuel -> a <= ws.length -> acc.length <= a -> 
  Zp Qh XV fuel [some (.list (ws.map .str),0),some (.int w,2),some (.list (T.map .int),2),some (.list ((nz acc).map .int),2),some (.int (a:Int),2)] =
   some (.next [some (.list (ws.map .str),0),some (.int w,2),some (.list (T.map .int),2),some (.list ((nz (acc ++ bl ws w T k a)).map .int),2),some (.int (ws.length:Int),2)]):=by
 intro k
 induction k with
 | zero =>
  intro fuel a acc h1 h2 h3 h4
  obtain ⟨f,rfl⟩:∃ f,fuel = f + 1:=⟨fuel - 1,(Nat.succ_pred_eq_of_pos (vCP (vBr _) h2)).symm⟩
  have he:a = ws.length:=vCI h3 (Nat.le_of_sub_eq_zero (Nat.le_zero.mp h1))
  subst he
  rw [bl,List.append_nil]
  exact vV (by (wp_walk using Qh,JU _ _ (by exact Z9 (by assumption):ws.length <= big),(by exact Int.not_lt.mpr (Int.le_refl _):¬ ((ws.length:Int) < ws.length))))
 | succ k ih =>
  intro fuel a acc h1 h2 h3 h4
  obtain ⟨f,rfl⟩:∃ f,fuel = f + 1:=⟨fuel - 1,(Nat.succ_pred_eq_of_pos (vCP (vBr _) h2)).symm⟩
  by_cases ha:a < ws.length
  ·obtain ⟨n1,n2,n3,n4,n5⟩:=jPA hR ha
   obtain ⟨m1,m2⟩:=qBW (hR.2.2 a ha).2
   have hc:jN YZ Yi [2,4] [some (.list (ws.map .str),0),some (.int w,2),some (.list (T.map .int),2),some (.list ((nz (acc ++ [a])).map .int),2),some (.int (a:Int),2)] ((ZG ws w T a).map jIK) = some (.ok (.list ((((ZG ws w T a).filter fun p=>p.2 == T.getD a 0).map fun p=>(p.1:Int)).map .int),2)):=by
    have:=jJX (jVA (fE:=YZ) (fC:=Yi) (cap:=[2,4]) (Z:=[some (.list (ws.map .str),0),some (.int w,2),some (.list (T.map .int),2),some (.list ((nz (acc ++ [a])).map .int),2),some (.int (a:Int),2)]) jIK (fun p=>p.2 == T.getD a 0) (fun p=>.int (p.1:Int)) (ZG ws w T a) (by
     intro p hp
     refine ⟨by (wp_walk using Yi,YL,jIK,List.map_cons,List.map_nil,List.getElem?_cons_zero,List.getElem?_cons_succ,Option.join_some,(QE D.int T a _ (getD_some 0 (show a < T.length by rw [hR.1];exact Nat.lt_succ_of_lt ha)) (by rw [hR.1];exact vBh hl (by decide):T.length <= big))),fun _=>⟨0,by (wp_walk using YZ,YL,jIK)⟩⟩))
    rw [show ((ZG ws w T a).filter fun p=>p.2 == T.getD a 0).map (fun p=>D.int (p.1:Int)) = (((ZG ws w T a).filter fun p=>p.2 == T.getD a 0).map fun p=>(p.1:Int)).map .int from by rw [vCJ];rfl,kc] at this
    exact this
   have hbody:XV [some (.list (ws.map .str),0),some (.int w,2),some (.list (T.map .int),2),some (.list ((nz acc).map .int),2),some (.int (a:Int),2)] =
     some (.next [some (.list (ws.map .str),0),some (.int w,2),some (.list (T.map .int),2),some (.list ((nz (acc ++ [a])).map .int),2),some (.int (jCC ws w T a:Nat),2)]):=by
    (wp_walk using XV,(zf (occ:=[4]) (i:=3) (f:=fun Z=>JH 4 Z) (Z:=[some (.list (ws.map .str),0),some (.int w,2),some (.list (T.map .int),2),some (.list ((nz acc).map .int),2),some (.int (a:Int),2)]) (d:=.int (a:Int)) (lv':=0) rfl (by decide) (by rw [vBF,jGI];exact vAz (vBd (vCP (vBh h4 ha) hl)) (by decide)) rfl rfl),jXV,(jAI ws w T a hl hw hwb hR.1 ha),zt _ _ _ (by unfold ZG;rw [vBF,vCB];exact vAz (vAz (vAz (zx ws w a) (Nat.sub_le ..)) hl) (by decide):(ZG ws w T a).length <= lim),hc,jYF _ m1,m2)
   have:=ih f (jCC ws w T a) (acc ++ [a]) (vAz (Nat.sub_le_sub_left n1 _) (Nat.pred_le_pred h1)) (Nat.le_of_lt_succ h2) n2 (by rw [vBO];exact vAz (vBl h4) n1)
   rw [bl,if_pos ha]
   rw [vCC] at this
   exact (jKO (by (wp_walk using Qh,JU _ _ (by exact Z9 (by assumption):ws.length <= big),(by exact vCb.mpr ha:((a:Int) < ws.length)))) hbody).trans this
  ·have he:a = ws.length:=by exact vCI h3 (vBy ha)
   subst he
   rw [bl,if_neg ha,List.append_nil]
   exact vV (by (wp_walk using Qh,JU _ _ (by exact Z9 (by assumption):ws.length <= big),(by exact Int.not_lt.mpr (Int.le_refl _):¬ ((ws.length:Int) < ws.length))))
theorem jFW (ws:Tc) (w:Int) (h:1 <= w) (hl:ws.length <= 2000) (hw:∀ w ∈ ws,w.length <= 1000) (hwb:w.natAbs <= 1000000000000000000000000000000000000) (hb:∀ x ∈ ws,(x.length:Int) <= w):Yl [.list (ws.map .str),.int w] = some (.ok (.list ((nz (yX ws w)).map .int),2)):=by
 have hg:Xm 3 [.list (ws.map D.str),.int w] = [some (.list (ws.map .str),0),some (.int w,2),none,none,none]:=rfl
 have hgo:=qHL ws w (tab ws w) hl hw hwb (qq hb) ws.length 100000 0 [] (Nat.sub_le ..) (vBh hl (by decide)) (vBz _) (by simp)
 unfold Yl
 rw [Jm (by rfl),hg]
 unfold qH
 (wp_walk using qz,jCU ws w h hl hw hwb hb,qy,ZI,qx)
 unfold qw
 rw [show Zp Qh XV 100000 [some (.list (ws.map .str),0),some (.int w,2),some (.list ((tab ws w).map .int),2),some (.list [],2),some (.int 0,2)] = _ from hgo]
 (wp_walk using qv)
 rfl
noncomputable abbrev dW (ws:Tc):D:=.list (ws.map .str)
def dP (ps:List (List (List Nat) × Int)):List D:=ps.map fun p=>.tup [dW p.1,.int p.2]
def pgO (ws:Tc) (w:Int) (ps:List (List (List Nat) × Int)):Pg:=⟨dW ws,.int w,dP ps⟩
theorem vd:∀ ws:Tc,D.plains (ws.map .str) = true:=by
 intro ws
 induction ws with
 | nil =>
  exact rfl
 | cons _ ws ih =>
  exact ih
theorem ya (Wz:Sg) (a:Addr) (p q:Pg):XH (XH Wz a p) a q = XH Wz a q:=by
 unfold XH
 congr 1
 funext b
 by_cases h:b = a
 ·rw [if_pos h,if_pos h]
 ·rw [if_neg h,if_neg h];exact if_neg h
theorem Jx {a:Addr} {l:Nat} (hp:Wz.pg a = some p):YB Wz 0 "kept" (some (.ob a,l) :: Z) = some (.ok (p.k,0)):=by
 show (Wz.pg a).bind _ = _
 rw [hp];rfl
theorem ZK {a:Addr} {l:Nat} (hp:Wz.pg a = some p):YB Wz 0 "wide" (some (.ob a,l) :: Z) = some (.ok (p.w,0)):=by
 show (Wz.pg a).bind _ = _
 rw [hp];rfl
theorem ZP {α:Type} {a:Addr} {l:Nat} {g:D -> G -> Option (R α)} (hp:Wz.pg a = some p):Zf Wz 0 g (some (.ob a,l) :: Z) = g (.ob a) (some (.ob a,l) :: Z):=by
 show (if (Wz.pg a).isSome then _ else _) = _
 rw [hp];rfl
theorem kr {α:Type} {a:Addr} {l:Nat} {k:D -> Option α} (hp:Wz.pg a = some p):jBE Wz 0 (some (.ob a,l) :: Z) k = k (.ob a):=by
 show (if (Wz.pg a).isSome then _ else _) = _
 rw [hp];rfl
theorem jHR {a:Addr} {l:Nat} {f:Sg -> Tg} (hp:Wz.pg a = some p) (hf:f Wz (some (.ob a,l) :: Z) = some (.ok (d,lv))) (hd:(d.plain && (x == "kept" || (x == "wide" && d.flat))) = true) :
  jTW occ 0 x f Wz (some (.ob a,l) :: Z) = some (.next (JX occ (some (.ob a,l) :: Z)) (XH Wz a (if x = "kept" then { p with k:=d } else { p with w:=d }))):=by
 show ((Wz.pg a).bind fun p=>okV (f Wz _) _) = _
 rw [hp,Option.bind_some,hf]
 exact if_pos hd
theorem qBO {a:Addr} {l:Nat} {f:Sg -> Tg} (hp:Wz.pg a = some p) (hf:f Wz (some (.ob a,l) :: Z) = some (.ok (d,lv))) (hd:d.plain = true) (hl:p.p.length + 1 <= lim) :
  jSH occ 0 f Wz (some (.ob a,l) :: Z) = some (.next (JX occ (some (.ob a,l) :: Z)) (XH Wz a { p with p:=p.p ++ [d] })):=by
 show ((Wz.pg a).bind fun p=>okV (f Wz _) _) = _
 rw [hp,Option.bind_some,hf]
 exact if_pos (by rw [hd,vBk hl];rfl)
theorem jCG {np:Nat} {f:Te} (hl:ds.length = np) (h:f Wz (Xm k ds) = some (.next Z W')):fnT np k f Wz ds = some (.none,W'):=by unfold fnT;rw [if_pos hl,h]
theorem jDY {np:Nat} {f:Te} (hl:ds.length = np) (h:f Wz (Xm k ds) = some (.ret d W')):fnT np k f Wz ds = some (d,W'):=by unfold fnT;rw [if_pos hl,h]
theorem JP {x:Option OT} {f:Te} {r:Option OT} (h:x = some (.next Z Wz)) (h2:f Wz Z = r):Jn x f = r:=by rw [h];exact h2
theorem jED (ps:List (List (List Nat) × Int)):(dP ps).length = ps.length:=vBF ..
theorem yQ (ps:List (List (List Nat) × Int)) (ws:Tc) (w:Int):dP (ps ++ [(ws,w)]) = dP ps ++ [.tup [dW ws,.int w]]:=by unfold dP;rw [vBv];rfl
theorem jEG {a:Addr} (hp:Wz.pg a = some (pgO ws w ps)) (hl:ps.length + 1 <= lim) :
  ZL Wz [.ob a,dW ws',.int w'] = some (.none,XH Wz a (pgO ws' w' (ps ++ [(ws,w)]))):=by
 have hpl:D.plain (.tup [dW ws,.int w]) = true:=by show (D.plains (ws.map .str) && true) = true;rw [vd];rfl
 have e1:xo Wz [some (.ob a,2),some (dW ws',0),some (.int w',2)] = some (.next [some (.ob a,0),some (dW ws',0),some (.int w',2)] (XH Wz a (pgO ws w (ps ++ [(ws,w)])))):=by
  show jSH [0,0] 0 jJ Wz _ = _
  have ha:jJ Wz [some (.ob a,2),some (dW ws',0),some (.int w',2)] = some (.ok (.tup [dW ws,.int w],0)):=by
   unfold jJ;rw [Jx hp,ZK hp];rfl
  rw [qBO hp ha hpl (by show (dP ps).length + 1 <= lim;rw [jED];exact hl)]
  unfold pgO
  rw [yQ]
  rfl
 have e2:qC (XH Wz a (pgO ws w (ps ++ [(ws,w)]))) [some (.ob a,0),some (dW ws',0),some (.int w',2)] = some (.next [some (.ob a,0),some (dW ws',0),some (.int w',2)] (XH Wz a (pgO ws' w (ps ++ [(ws,w)])))):=by
  unfold qC
  rw [jHR (jd ..) (d:=dW ws') (lv:=0) rfl (by show (D.plains (ws'.map .str) && true) = true;rw [vd];rfl),ya]
  rfl
 have e3:qB (XH Wz a (pgO ws' w (ps ++ [(ws,w)]))) [some (.ob a,0),some (dW ws',0),some (.int w',2)] = some (.next [some (.ob a,0),some (dW ws',0),some (.int w',0)] (XH Wz a (pgO ws' w' (ps ++ [(ws,w)])))):=by
  unfold qB
  rw [jHR (jd ..) (d:=.int w') (lv:=0) rfl rfl,ya]
  rfl
 exact jCG rfl (JP e1 (JP e2 (JP e3 rfl)))
inductive Dd where
 | put (i:Int) (x:List Nat)
 | drop (i:Int)
 | widen (w:Int)
 | undo
noncomputable def jWW:List Nat:=[112,117,116]
noncomputable def jFA:List Nat:=[100,114,111,112]
noncomputable def qe:List Nat:=[119,105,100,101,110]
noncomputable def jEZ:List Nat:=[117,110,100,111]
def dD:Dd -> D
 | .put i x=>.tup [.str jWW,.int i,.str x]
 | .drop i=>.tup [.str jFA,.int i]
 | .widen w=>.tup [.str qe,.int w]
 | .undo=>.tup [.str jEZ]
noncomputable def isW (x:List Nat):Bool:=!(x == []) && (!x.contains 32 && !x.contains 10)
def vX (ws:Tc) (w:Int) (ps:List (List (List Nat) × Int)):Dd -> Option Str
 | .put i x=>if 0 <= i /\ i <= ws.length then (if isW x then (if w < x.length then some "LongWord" else if 120 <= ws.length then some "Full" else none) else some "NoWord") else some "NoPlace"
 | .drop i=>if 0 <= i /\ i < ws.length then none else some "NoPlace"
 | .widen v=>if v < 1 then some "NoWidth" else if ∀ x ∈ ws,(x.length:Int) <= v then none else some "LongWord"
 | .undo=>if ps = [] then some "NoWayBack" else none
noncomputable def jIP (k:Str):Int:=if k = "NoWidth" then 11 else if k = "LongWord" then 12 else if k = "NoPlace" then 17 else if k = "NoWord" then 18 else if k = "Full" then 19 else 20
def due (ws:Tc) (w:Int) (ps:List (List (List Nat) × Int)) (d:Dd):Int:=match vX ws w ps d with
 | none=>0
 | some k=>jIP k
structure Okr (ws:Tc) (w:Int):Prop where
 w1:1 <= w
 w2:w <= 1000000000000000000000000000000
 len:ws.length <= 120
 wd:∀ x ∈ ws,x.length <= 400 /\ (x.length:Int) <= w
theorem jUO (t:List Nat):jK [.str t] = some (.ok (.bool (isW t),2)):=by
 unfold jK
 rw [Jm (by rfl)]
 show jNM (zK [some (.str t,2)]) = _
 unfold zK isW
 cases h1:(t == []) <;> cases h2:t.contains 32 <;> (wp_walk using jCY,h1,h2,qOD,Bool.true_and,Bool.false_and) <;> rfl
section
variable {a:Addr}
theorem Xk (h:ws.length <= 120):ws.length <= big:=vAz h (by decide)
theorem gL (x:List Nat) (h:x.length <= 400):x.length <= big:=vAz h (by decide)
noncomputable abbrev gP (a:Addr) (i:Int) (x:List Nat):G:=[some (.ob a,2),some (.int i,2),some (.str x,2)]
theorem qBK {i:Int} {x:List Nat} (hp:Wz.pg a = some (pgO ws w ps)) (hl:ws.length <= 120) (h:¬ (0 <= i /\ i <= ws.length)):qt Wz (gP a i x) = some (.raise "NoPlace"):=by
 by_cases h1:i < 0
 ·(wp_walk using qt,h1)
 ·(wp_walk using qt,h1,Jx hp,pgO,JU _ _ (Xk hl),(Int.not_le.mp fun q=>h ⟨Int.not_lt.mp h1,q⟩:(ws.length:Int) < i))
theorem jXK {i:Int} {x:List Nat} (hp:Wz.pg a = some (pgO ws w ps)) (hl:ws.length <= 120) (h:0 <= i /\ i <= ws.length):qt Wz (gP a i x) = some (.next (gP a i x)):=by
 (wp_walk using qt,(by exact Int.not_lt.mpr h.1:¬ i < 0),Jx hp,pgO,JU _ _ (Xk hl),(by exact Int.not_lt.mpr h.2:¬ (ws.length:Int) < i))
theorem jXJ {i:Int} {x:List Nat}:jCX Wz (gP a i x) = if isW x then some (.next (gP a i x)) else some (.raise "NoWord"):=by
 cases h:isW x <;> (wp_walk using jCX,jUO,h)
theorem qBJ {i:Int} {x:List Nat} (hp:Wz.pg a = some (pgO ws w ps)) (hx:x.length <= 400) (h:w < x.length):xm Wz (gP a i x) = some (.raise "LongWord"):=by
 (wp_walk using xm,ZK hp,pgO,jU _ (gL x hx),h)
theorem jXI {i:Int} {x:List Nat} (hp:Wz.pg a = some (pgO ws w ps)) (hx:x.length <= 400) (h:¬ w < x.length):xm Wz (gP a i x) = some (.next (gP a i x)):=by
 (wp_walk using xm,ZK hp,pgO,jU _ (gL x hx),h)
theorem qBI {i:Int} {x:List Nat} (hp:Wz.pg a = some (pgO ws w ps)) (hl:ws.length <= 120) (h:120 <= ws.length):xj Wz (gP a i x) = some (.raise "Full"):=by
 have h:(120:Int) <= ws.length:=by exact Int.ofNat_le.mpr h
 (wp_walk using xj,Jx hp,pgO,JU _ _ (Xk hl),h)
theorem jXH {i:Int} {x:List Nat} (hp:Wz.pg a = some (pgO ws w ps)) (hl:ws.length <= 120) (h:¬ 120 <= ws.length):xj Wz (gP a i x) = some (.next (gP a i x)):=by
 have h:¬ (120:Int) <= ws.length:=by exact fun eq=>fZ (lZ [((ws.length:Nat):Int)] (.n 1) (.n 0) [(.a (.v 0) (.n 1),.n 120),(.n 120,.v 0)] rT (zT (Nat.lt_of_not_le h)) eq)
 (wp_walk using xj,Jx hp,pgO,JU _ _ (Xk hl),h)
theorem qDP {i:Int} {x:List Nat} (hp:Wz.pg a = some (pgO ws w ps)) (hl:ws.length <= 120) (hx:x.length <= 400):qAW Wz [.ob a,.int i,.str x] = (vX ws w ps (.put i x)).map .exc:=by
 have hg:Xm 0 [.ob a,.int i,.str x] = gP a i x:=rfl
 unfold qAW
 rw [Jm (by rfl),hg]
 unfold qGV vX
 dsimp only
 by_cases h1:0 <= i /\ i <= ws.length
 ·rw [jl,jXK hp hl h1,Za,jl,jXJ,if_pos h1]
  cases h2:isW x with
  | false=>rfl
  | true =>
   simp only [if_true,Za,jl]
   by_cases h3:w < x.length
   ·rw [qBJ hp hx h3,if_pos h3];rfl
   ·rw [jXI hp hx h3,if_neg h3,Za]
    by_cases h4:120 <= ws.length
    ·rw [jl,qBI hp hl h4,if_pos h4];rfl
    ·rw [jl,jXH hp hl h4,if_neg h4];rfl
 ·rw [jl,qBK hp hl h1,if_neg h1];rfl
noncomputable def ins (ws:Tc) (i:Nat) (x:List Nat):Tc:=ws.take i ++ [x] ++ ws.drop i
noncomputable def del (ws:Tc) (i:Nat):Tc:=ws.take i ++ ws.drop (i + 1)
theorem jBV (l:Tc) (i:Nat) (h:i <= l.length):Jf l none (some (i:Int)) = l.take i:=by
 unfold Jf
 simp only [Option.elim_none,vCc,((jCH _ _).trans (Nat.min_eq_left h):clipAt l.length (i:Int) = i),List.drop_zero,Nat.sub_zero]
theorem vW (l:Tc) (i:Nat) (h:i <= l.length):Jf l (some (i:Int)) none = l.drop i:=by
 unfold Jf
 simp only [Option.elim_none,vCc,((jCH _ _).trans (Nat.min_eq_left h):clipAt l.length (i:Int) = i)]
 exact vBw (by rw [vCF];exact vBI _)
theorem l_t (h:ws.length <= 120):(ws.take i).length <= 120:=vAz (List.length_take_le' ..) h
theorem l_d (h:ws.length <= 120):(ws.drop i).length <= 120:=by rw [vCF];exact vAz (Nat.sub_le ..) h
theorem l_a {x:List Nat} (h:ws.length <= 120):(ws.take i).length + [x].length <= 1000:=vAz (vBl (l_t h)) (by decide)
theorem l_b {x:List Nat} (h:ws.length <= 120):(ws.take i ++ [x]).length + (ws.drop i).length <= 1000:=by
 rw [vBO];exact vAz (vCp (vBl (l_t h)) (l_d h)) (by decide)
theorem l_c (h:ws.length <= 120):(ws.take i).length + (ws.drop j).length <= 1000:=vAz (vCp (l_t h) (l_d h)) (by decide)
theorem Z8 (h:ws.length <= 120):ws.length <= lim:=vAz h (by decide)
theorem v6 (xs ys:Tc) (h:xs.length + ys.length <= 1000):YC [.list (xs.map .str),.list (ys.map .str)] = some (.ok (.list ((xs ++ ys).map .str),2)):=by
 rw [zh _ _ (by rw [vBO,vBF,vBF];exact vAz h (by decide)),<- vBv,zF]
theorem jNG {x:List Nat} (hp:Wz.pg a = some (pgO ws w ps)) (hl:ws.length <= 120) (hx:x.length <= 400) (hs:ps.length + 1 <= lim) (h:vX ws w ps (.put i x) = none) :
  jBB Wz [.ob a,.int i,.str x] = some (.none,XH Wz a (pgO (ins ws i x) w (ps ++ [(ws,w)]))):=by
 unfold vX at h
 dsimp only at h
 split at h
 ·rename_i h1
  split at h
  ·rename_i h2
   split at h
   ·cases h
   ·rename_i h3
    split at h
    ·cases h
    ·rename_i h4
     have hi:i <= ws.length:=by exact Int.ofNat_le.mp h1.2
     have e1:jIH Wz (gP a i x) = some (.next (gP a i x) Wz):=by show QU Wz (qt Wz _) = _;rw [jXK hp hl h1];rfl
     have e2:jIG Wz (gP a i x) = some (.next (gP a i x) Wz):=by show QU Wz (jCX Wz _) = _;rw [jXJ,if_pos h2];rfl
     have e3:jIF Wz (gP a i x) = some (.next (gP a i x) Wz):=by show QU Wz (xm Wz _) = _;rw [jXI hp hx h3];rfl
     have e4:jIE Wz (gP a i x) = some (.next (gP a i x) Wz):=by show QU Wz (xj Wz _) = _;rw [jXH hp hl h4];rfl
     have l1:J3 [.str x] = some (.ok (.list ([x].map .str),2)):=rfl
     have e5:jBT Wz (gP a i x) = some (.none,XH Wz a (pgO (ins ws i x) w (ps ++ [(ws,w)])),JX [0,2,0,0] (gP a i x)):=by
      unfold jBT
      rw [kr hp,Jx hp,ZK hp]
      (wp_walk using pgO,Yp _ _ _ (Z8 hl),jBV ws i hi,vW ws i hi,l1,v6 (ws.take i) [x] (l_a hl),v6 (ws.take i ++ [x]) (ws.drop i) (l_b hl))
      show Qd Wz _ _ (some (.ok [dW (ins ws i x),.int w])) = _
      unfold Qd
      dsimp only
      rw [jEG hp hs];rfl
     have e6:jBZ Wz (gP a i x) = some (.next (JX [0,2,0,0] (gP a i x)) (XH Wz a (pgO (ins ws i x) w (ps ++ [(ws,w)])))):=by unfold jBZ;rw [e5];rfl
     exact jCG rfl (JP e1 (JP e2 (JP e3 (JP e4 (JP e6 rfl)))))
  ·cases h
 ·cases h
theorem jZN {i:Int} (hp:Wz.pg a = some (pgO ws w ps)) (hl:ws.length <= 120) (h:¬ (0 <= i /\ i < ws.length)):jO Wz [some (.ob a,2),some (.int i,2),none] = some (.raise "NoPlace"):=by
 by_cases h1:i < 0
 ·(wp_walk using jO,h1)
 ·(wp_walk using jO,h1,Jx hp,pgO,JU _ _ (Xk hl),(Int.not_lt.mp fun q=>h ⟨Int.not_lt.mp h1,q⟩:(ws.length:Int) <= i))
theorem jSY {i:Int} (hp:Wz.pg a = some (pgO ws w ps)) (hl:ws.length <= 120) (h:0 <= i /\ i < ws.length):jO Wz [some (.ob a,2),some (.int i,2),none] = some (.next [some (.ob a,2),some (.int i,2),none]):=by
 (wp_walk using jO,(by exact Int.not_lt.mpr h.1:¬ i < 0),Jx hp,pgO,JU _ _ (Xk hl),(by exact Int.not_le.mpr h.2:¬ (ws.length:Int) <= i))
theorem jSX {x:List Nat} (hp:Wz.pg a = some (pgO ws w ps)) (hl:ws.length <= 120) (h:ws[i]? = some x):yo Wz [some (.ob a,2),some (.int i,2),none] = some (.next [some (.ob a,2),some (.int i,2),some (.str x,2)]):=by
 (wp_walk using yo,Jx hp,pgO,QE D.str ws i _ h (Xk hl))
theorem qAX {i:Int} (hp:Wz.pg a = some (pgO ws w ps)) (hl:ws.length <= 120):jNJ Wz [.ob a,.int i] = (vX ws w ps (.drop i)).map .exc:=by
 have hg:Xm 1 [.ob a,.int i] = [some (.ob a,2),some (.int i,2),none]:=rfl
 unfold jNJ
 rw [Jm (by rfl),hg]
 unfold jZD vX
 dsimp only
 by_cases h1:0 <= i /\ i < ws.length
 ·obtain ⟨k,rfl⟩:=vBu h1.1
  have hk:k < ws.length:=by exact vCb.mp h1.2
  rw [jl,jSY hp hl h1,Za,if_pos h1,jl,jSX hp hl (vBP hk)];rfl
 ·rw [jl,jZN hp hl h1,if_neg h1];rfl
theorem jVI {x:List Nat} (hp:Wz.pg a = some (pgO ws w ps)) (hl:ws.length <= 120) (hs:ps.length + 1 <= lim) (h:ws[i]? = some x) :
  jKK Wz [.ob a,.int i] = some (.str x,XH Wz a (pgO (del ws i) w (ps ++ [(ws,w)]))):=by
 have hi:i < ws.length:=(vBY.mp h).1
 have hi1:(i:Int) + 1 = ((i + 1:Nat):Int):=by exact rfl
 have e3:yY Wz [some (.ob a,2),some (.int i,2),some (.str x,2)] = some (.none,XH Wz a (pgO (del ws i) w (ps ++ [(ws,w)])),JX [0,0,0] [some (.ob a,2),some (.int i,2),some (.str x,2)]):=by
  unfold yY
  rw [kr hp,Jx hp,ZK hp]
  (wp_walk using pgO,hi1,Yp _ _ _ (Z8 hl),jBV ws i (vBd hi),vW ws (i + 1) hi,v6 (ws.take i) (ws.drop (i + 1)) (l_c hl))
  show Qd Wz _ _ (some (.ok [dW (del ws i),.int w])) = _
  unfold Qd
  dsimp only
  rw [jEG hp hs];rfl
 exact jDY rfl (JP (by show QU Wz (jO Wz _) = _;rw [jSY hp hl (by exact ⟨lZ [(i:Int)] (.n 0) (.v 0) [(.n 0,.v 0)] rT (vBi _),lZ [(i:Int),((ws.length:Nat):Int)] (.a (.v 0) (.n 1)) (.v 1) [(.a (.v 0) (.n 1),.v 1)] rT (zT hi)⟩)];rfl:jDE Wz [some (.ob a,2),some (.int i,2),none] = some (.next [some (.ob a,2),some (.int i,2),none] Wz)) (JP (by show QU Wz (yo Wz _) = _;rw [jSX hp hl h];rfl:jDD Wz [some (.ob a,2),some (.int i,2),none] = some (.next [some (.ob a,2),some (.int i,2),some (.str x,2)] Wz)) (JP (by unfold zA;rw [e3];rfl:zA Wz [some (.ob a,2),some (.int i,2),some (.str x,2)] = some (.next (JX [0,0,0] [some (.ob a,2),some (.int i,2),some (.str x,2)]) (XH Wz a (pgO (del ws i) w (ps ++ [(ws,w)]))))) rfl)))
theorem jTF (ok:Okr ws w):∀ x ∈ ws,x.length <= big:=fun x hx=>gL x (ok.wd x hx).1
theorem jVJ {v:Int} (hp:Wz.pg a = some (pgO ws w ps)) (ok:Okr ws w):jES Wz [.ob a,.int v] = (vX ws w ps (.widen v)).map .exc:=by
 have hg:Xm 0 [.ob a,.int v] = [some (.ob a,2),some (.int v,2)]:=rfl
 unfold jES
 rw [Jm (by rfl),hg]
 unfold jPT vX
 dsimp only
 by_cases h1:v < 1
 ·rw [if_pos h1]
  (wp_walk using qr,Jx hp,pgO,jFC ws v h1)
  rfl
 ·have h1':1 <= v:=by exact Int.not_lt.mp h1
  rw [if_neg h1]
  by_cases h2:∀ x ∈ ws,(x.length:Int) <= v
  ·rw [if_pos h2]
   (wp_walk using qr,Jx hp,pgO,qD ws v h1' (Z8 ok.len) (jTF ok) h2)
   rfl
  ·rw [if_neg h2]
   (wp_walk using qr,Jx hp,pgO,jDJ ws v h1' (Z8 ok.len) (jTF ok) h2)
   rfl
theorem jQY {v:Int} (hp:Wz.pg a = some (pgO ws w ps)) (ok:Okr ws w) (hs:ps.length + 1 <= lim) (h1:1 <= v) (h2:∀ x ∈ ws,(x.length:Int) <= v) :
  jCJ Wz [.ob a,.int v] = some (.none,XH Wz a (pgO ws v (ps ++ [(ws,w)]))):=by
 have e1:vc Wz [some (.ob a,2),some (.int v,2)] = some (.next [some (.ob a,2),some (.int v,2)] Wz):=by
  unfold vc
  (wp_walk using zl,Jx hp,pgO,qD ws v h1 (Z8 ok.len) (jTF ok) h2)
  rfl
 have e2:vU Wz [some (.ob a,2),some (.int v,2)] = some (.none,XH Wz a (pgO ws v (ps ++ [(ws,w)])),JX [0,1] [some (.ob a,2),some (.int v,2)]):=by
  unfold vU
  rw [kr hp,Jx hp]
  (wp_walk using pgO)
  unfold Qd
  dsimp only
  rw [jEG hp hs];rfl
 exact jCG rfl (JP e1 (JP (by unfold vZ;rw [e2];rfl:vZ Wz [some (.ob a,2),some (.int v,2)] = some (.next (JX [0,1] [some (.ob a,2),some (.int v,2)]) (XH Wz a (pgO ws v (ps ++ [(ws,w)]))))) rfl))
theorem qGY:∀ ps:List (List (List Nat) × Int),D.deps (dP ps) <= 2:=by
 intro ps
 induction ps with
 | nil=>decide
 | cons p ps ih =>
  have h0:∀ ws:Tc,D.deps (ws.map .str) = 0:=fun ws=>by induction ws with | nil=>rfl | cons x xs ih=>show max 0 (D.deps (xs.map .str)) = 0;rw [ih];rfl
  show max (max (D.deps (p.1.map .str) + 1) (max 0 0) + 1) (D.deps (dP ps)) <= 2
  rw [h0];exact Nat.max_le.mpr ⟨by decide,ih⟩
theorem jZJ (ps:List (List (List Nat) × Int)):eqF [.list (dP ps),.list []] = some (.ok (.bool (decide (ps = [])),2)):=by
 have h3:D.eqb (.list (dP ps)) (.list []) = decide (ps = []):=by
  cases ps with
  | nil=>rfl
  | cons p ps=>rfl
 exact qEQ (by cases dP ps <;> rfl:D.cmpb (.list (dP ps)) (.list []) = true) (by exact vBh (qGY ps) (by decide):(D.list (dP ps)).dep <= 100) h3
theorem jXP (hp:Wz.pg a = some (pgO ws w ps)) {l:Nat}:jXQ Wz 0 (some (.ob a,l) :: Z) = some (.ok (decide (ps = []))):=by
 show ((Wz.pg a).bind _) = _
 rw [hp,Option.bind_some]
 show JR (eqF [.list (dP ps),.list []]) _ = _
 rw [jZJ];rfl
theorem qAV (hp:Wz.pg a = some (pgO ws w ps)):jNI Wz [.ob a] = (vX ws w ps .undo).map .exc:=by
 have hg:Xm 1 [.ob a] = [some (.ob a,2),none]:=rfl
 unfold jNI
 rw [Jm (by rfl),hg]
 unfold jZC vX
 rw [jl];unfold jHS
 rw [jXP hp]
 by_cases h:ps = []
 ·simp only [h,decide_true,if_true];rfl
 ·simp only [h,decide_false,if_false];rfl
theorem jVH (hp:Wz.pg a = some (pgO ws w (ps ++ [(ws',w')]))) (hs:ps.length + 1 <= lim):jKJ Wz [.ob a] = some (.none,XH Wz a (pgO ws' w' ps)):=by
 have e1:jDC Wz [some (.ob a,2),none] = some (.next [some (.ob a,2),none] Wz):=by
  show QU Wz (Yj (jXQ Wz 0 _) _ _) = _
  rw [jXP hp]
  simp only [(by simp:¬ (ps ++ [(ws',w')] = [])),decide_false]
  rfl
 have e2:jCL Wz [some (.ob a,2),none] = some (.tup [dW ws',.int w'],XH Wz a (pgO ws w ps),[some (.ob a,2),none]):=by
  show ((Wz.pg a).bind _) = _
  rw [hp,Option.bind_some]
  show ((dP (ps ++ [(ws',w')])).getLast?).bind _ = _
  rw [yQ,List.getLast?_concat,Option.bind_some,if_pos (by show (dP (ps ++ [(ws',w')])).length <= lim;rw [jED,vBO];exact hs)]
  show some (_,XH Wz a ⟨dW ws,.int w,(dP (ps ++ [(ws',w')])).dropLast⟩,_) = _
  rw [yQ,List.dropLast_concat];rfl
 have e4:yz (XH Wz a (pgO ws w ps)) [some (.ob a,2),some (.tup [dW ws',.int w'],0)] = some (.next [some (.ob a,2),some (.tup [dW ws',.int w'],0)] (XH Wz a (pgO ws' w ps))):=by
  unfold yz
  rw [jHR (jd ..) (d:=dW ws') (lv:=0) rfl (by show (D.plains (ws'.map .str) && true) = true;rw [vd];rfl),ya]
  rfl
 have e5:yy (XH Wz a (pgO ws' w ps)) [some (.ob a,2),some (.tup [dW ws',.int w'],0)] = some (.next [some (.ob a,2),some (.tup [dW ws',.int w'],0)] (XH Wz a (pgO ws' w' ps))):=by
  unfold yy
  rw [jHR (jd ..) (d:=.int w') (lv:=0) rfl rfl,ya]
  rfl
 exact jCG rfl (JP e1 (JP (by unfold y0;rw [e2];rfl:y0 Wz [some (.ob a,2),none] = some (.next [some (.ob a,2),some (.tup [dW ws',.int w'],0)] (XH Wz a (pgO ws w ps)))) (JP e4 (JP e5 rfl))))
theorem t10 (x:D):JL [.tup [x],.int 0] = some (.ok (x,0)):=rfl
theorem t30 (x y z:D):JL [.tup [x,y,z],.int 0] = some (.ok (x,0)):=rfl
theorem t31 (x y z:D):JL [.tup [x,y,z],.int 1] = some (.ok (y,0)):=rfl
theorem t32 (x y z:D):JL [.tup [x,y,z],.int 2] = some (.ok (z,0)):=rfl
theorem qNU:(([112,117,116]:List Nat) == [112,117,116]) = true:=rfl
theorem qKF:(([100,114,111,112]:List Nat) == [112,117,116]) = false:=rfl
theorem qKD:(([119,105,100,101,110]:List Nat) == [112,117,116]) = false:=rfl
theorem qLH:(([117,110,100,111]:List Nat) == [112,117,116]) = false:=rfl
theorem qOY:(([112,117,116]:List Nat) == [100,114,111,112]) = false:=rfl
theorem qNV:(([100,114,111,112]:List Nat) == [100,114,111,112]) = true:=rfl
theorem qKE:(([119,105,100,101,110]:List Nat) == [100,114,111,112]) = false:=rfl
theorem qLI:(([117,110,100,111]:List Nat) == [100,114,111,112]) = false:=rfl
theorem qNT:(([119,105,100,101,110]:List Nat) == [119,105,100,101,110]) = true:=rfl
theorem qNB:(([117,110,100,111]:List Nat) == [119,105,100,101,110]) = false:=rfl
theorem qOX:(([112,117,116]:List Nat) == [117,110,100,111]) = false:=rfl
theorem qOZ:(([100,114,111,112]:List Nat) == [117,110,100,111]) = false:=rfl
theorem qOW:(([119,105,100,101,110]:List Nat) == [117,110,100,111]) = false:=rfl
theorem qJX (k:Nat) (x:List Nat):inF [.str [k],.str x] = some (.ok (.bool (x.contains k),2)):=rfl
theorem jYL {d:Dd} {k:Str} (h:vX ws w ps d = some k):(excNames.contains k && qDX k "WrapError") = true /\ qS [.exc k] = some (.ok (.int (jIP k),2)) /\ jIP k ≠ 0:=by
 have:k = "NoWidth" \/ k = "LongWord" \/ k = "NoPlace" \/ k = "NoWord" \/ k = "Full" \/ k = "NoWayBack":=by
  cases d <;> unfold vX at h <;> dsimp only at h
  ·split at h
   ·split at h
    ·split at h
     ·cases h;simp
     ·split at h
      ·cases h;simp
      ·cases h
    ·cases h;simp
   ·cases h;simp
  ·split at h
   ·cases h
   ·cases h;simp
  ·split at h
   ·cases h;simp
   ·split at h
    ·cases h
    ·cases h;simp
  ·split at h
   ·cases h;simp
   ·cases h
 rcases this with rfl | rfl | rfl | rfl | rfl | rfl <;> exact ⟨by decide,rfl,by decide⟩
def okD:Dd -> Prop
 | .put _ x=>x.length <= 400
 | .widen v=>v <= 1000000000000000000000000000000
 | _=>True
theorem jWD {d:Dd} (hp:Wz.pg a = some (pgO ws w ps)) (ok:Okr ws w) (hd:okD d) :
  Yy Wz [.ob a,dD d] = (vX ws w ps d).bind fun k=>some (.ok (.int (jIP k),2)):=by
 unfold Yy
 rw [Jm (by rfl)]
 show jNM (qJ Wz [some (.ob a,2),some (dD d,JZ (dD d)),none]) = _
 unfold qJ kz qHV
 cases d with
 | put i x =>
  (wp_walk using dD,jWW,t30,t31,t32,qNU,ZP hp,qDP hp ok.len hd)
  cases h:vX ws w ps (.put i x) with
  | none=>rfl
  | some k =>
   obtain ⟨h1,h2,-⟩:=jYL h
   (wp_walk using h1,h2)
   rfl
 | drop i =>
  (wp_walk using dD,jFA,qKF,qNV,ZP hp,qAX hp ok.len)
  cases h:vX ws w ps (.drop i) with
  | none=>rfl
  | some k =>
   obtain ⟨h1,h2,-⟩:=jYL h
   (wp_walk using h1,h2)
   rfl
 | widen i =>
  (wp_walk using dD,qe,qKD,qKE,qNT,ZP hp,jVJ hp ok)
  cases h:vX ws w ps (.widen i) with
  | none=>rfl
  | some k =>
   obtain ⟨h1,h2,-⟩:=jYL h
   (wp_walk using h1,h2)
   rfl
 | undo =>
  (wp_walk using dD,jEZ,t10,qLH,qLI,qNB,ZP hp,qAV hp)
  cases h:vX ws w ps .undo with
  | none=>rfl
  | some k =>
   obtain ⟨h1,h2,-⟩:=jYL h
   (wp_walk using h1,h2)
   rfl
def gD (ws:Tc) (w:Int) (ps:List (List (List Nat) × Int)) (d:Dd):G:=[some (dW ws,0),some (.int w,2),some (.list (dP ps),0),some (dD d,JZ (dD d))]
theorem gd0 {d:Dd}:JH 0 (gD ws w ps d) = some (.ok (dW ws,0)):=rfl
theorem gd1 {d:Dd}:JH 1 (gD ws w ps d) = some (.ok (.int w,0)):=rfl
theorem gd2 {d:Dd}:JH 2 (gD ws w ps d) = some (.ok (.list (dP ps),0)):=rfl
theorem gd3 {d:Dd}:JH 3 (gD ws w ps d) = some (.ok (dD d,0)):=rfl
theorem qNF {l:Nat} {g:Tj}:jGU (.bool true,l) g = g:=rfl
theorem qNG {l:Nat} {g:Tj}:jGU (.bool false,l) g = some (.ok (.bool false,2)):=rfl
theorem qKU {l:Nat} {b:Bool}:qAE (.bool b,l) = some (.ok (.bool b,2)):=rfl
theorem qES {d:Dd} (ok:Okr ws w) (hd:okD d):Yz [dW ws,.int w,.list (dP ps),dD d] = some (.ok (.int (due ws w ps d),2)):=by
 unfold Yz
 rw [Jm (by rfl)]
 show jNM (vq (gD ws w ps d)) = _
 unfold vq
 cases d with
 | put i x =>
  have hx:x.length <= big:=gL x hd
  have e1:=JU D.str ws (Xk ok.len)
  have e2:=jU _ hx
  generalize hr:due ws w ps (.put i x) = r
  have hr:(match (if 0 <= i /\ i <= ws.length then (if isW x then (if w < x.length then some "LongWord" else if 120 <= ws.length then some "Full" else none) else some "NoWord") else some "NoPlace":Option Str) with | none=>0 | some k=>jIP k) = r:=hr
  (wp_walk using kN,gd0,gd1,gd2,gd3,ZH,dD,jWW,t30,t31,t32,qNU)
  by_cases h1:0 <= i
  ·(wp_walk using kN,vBk h1,gd0,e1)
   by_cases h2:i <= ws.length
   ·rw [if_pos ⟨h1,h2⟩] at hr
    (wp_walk using kN,vBk h2,gd3,t32,dD,jWW)
    cases h3:(x == []) with
    | true =>
     rw [if_neg (by unfold isW;rw [h3];exact vCo)] at hr
     subst hr
     (wp_walk using kN,h3)
     rfl
    | false =>
     (wp_walk using kN,h3,qJX)
     cases h4:x.contains 32 with
     | true =>
      rw [if_neg (by unfold isW;rw [h3,h4];exact vCo)] at hr
      subst hr
      (wp_walk using kN)
      rfl
     | false =>
      (wp_walk using kN)
      cases h5:x.contains 10 with
      | true =>
       rw [if_neg (by unfold isW;rw [h3,h4,h5];exact vCo)] at hr
       subst hr
       (wp_walk using kN)
       rfl
      | false =>
       rw [if_pos (by unfold isW;rw [h3,h4,h5];rfl)] at hr
       (wp_walk using kN,gd0,gd1,gd3,t32,dD,jWW,e1,e2)
       by_cases h6:w < x.length
       ·rw [if_pos h6] at hr
        subst hr
        (wp_walk using kN,vBk h6)
        rfl
       ·rw [if_neg h6] at hr
        (wp_walk using kN,decide_eq_false h6)
        by_cases h7:120 <= ws.length
        ·have h7':(120:Int) <= ws.length:=by exact Int.ofNat_le.mpr h7
         rw [if_pos h7] at hr
         subst hr
         (wp_walk using kN,vBk h7')
         rfl
        ·have h7':¬ (120:Int) <= ws.length:=fun q=>h7 (Int.ofNat_le.mp q)
         rw [if_neg h7] at hr
         subst hr
         (wp_walk using kN,decide_eq_false h7')
         rfl
   ·rw [if_neg fun q=>h2 q.2] at hr
    subst hr
    (wp_walk using kN,decide_eq_false h2)
    rfl
  ·rw [if_neg fun q=>h1 q.1] at hr
   subst hr
   (wp_walk using kN,decide_eq_false h1)
   rfl
 | drop i =>
  have e1:=JU D.str ws (Xk ok.len)
  generalize hr:due ws w ps (.drop i) = r
  have hr:(match (if 0 <= i /\ i < ws.length then none else some "NoPlace":Option Str) with | none=>0 | some k=>jIP k) = r:=hr
  (wp_walk using kN,gd0,gd3,ZH,jQ,dD,jFA,qKF,qNV)
  by_cases h1:0 <= i
  ·(wp_walk using kN,vBk h1,qNF,gd0,e1)
   by_cases h2:i < ws.length
   ·rw [if_pos ⟨h1,h2⟩] at hr
    subst hr
    (wp_walk using kN,vBk h2,qKU)
    rfl
   ·rw [if_neg fun q=>h2 q.2] at hr
    subst hr
    (wp_walk using kN,decide_eq_false h2,qKU)
    rfl
  ·rw [if_neg fun q=>h1 q.1] at hr
   subst hr
   (wp_walk using kN,decide_eq_false h1,qNG)
   rfl
 | widen v =>
  have hL:=jUF ws (Z8 ok.len) (jTF ok)
  generalize hr:due ws w ps (.widen v) = r
  have hr:(match (if v < 1 then some "NoWidth" else if ∀ x ∈ ws,(x.length:Int) <= v then none else some "LongWord":Option Str) with | none=>0 | some k=>jIP k) = r:=hr
  (wp_walk using kN,gd0,gd3,ZH,jQ,vB,dD,qe,qKD,qKE,qNT)
  by_cases h1:v < 1
  ·rw [if_pos h1] at hr
   subst hr
   (wp_walk using kN,vBk h1)
   rfl
  ·rw [if_neg h1] at hr
   (wp_walk using kN,decide_eq_false h1,gd0,gd3,hL,dD,qe)
   by_cases h2:∀ x ∈ ws,(x.length:Int) <= v
   ·have h3:¬ v < (zr ws:Nat):=by
     have:=(jGL ws v (Int.le_of_lt (Int.lt_of_lt_of_le (by decide) (Int.not_lt.mp h1)))).mpr h2;exact (Int.not_lt.mpr this)
    rw [if_pos h2] at hr
    subst hr
    (wp_walk using kN,decide_eq_false h3)
    rfl
   ·have h3:v < (zr ws:Nat):=by
     have:=mt (jGL ws v (Int.le_of_lt (Int.lt_of_lt_of_le (by decide) (Int.not_lt.mp h1)))).mp h2;exact Int.not_le.mp this
    rw [if_neg h2] at hr
    subst hr
    (wp_walk using kN,vBk h3)
    rfl
 | undo =>
  generalize hr:due ws w ps .undo = r
  have hr:(match (if ps = [] then some "NoWayBack" else none:Option Str) with | none=>0 | some k=>jIP k) = r:=hr
  (wp_walk using kN,gd0,gd2,gd3,ZH,jQ,vB,jAP,dD,jEZ,t10,qLH,qLI,qNB,ZI,jZJ)
  by_cases h:ps = []
  ·rw [if_pos h] at hr
   subst hr
   (wp_walk using kN,vBk h)
   rfl
  ·rw [if_neg h] at hr
   subst hr
   (wp_walk using kN,decide_eq_false h)
   rfl
end
noncomputable abbrev Nw:=List (List Nat) × Int × List (List (List Nat) × Int)
abbrev jVK (n:Nw):D:=.tup [dW n.1,.int n.2.1,.list (dP n.2.2)]
abbrev pgN (n:Nw):Pg:=pgO n.1 n.2.1 n.2.2
def aft (n:Nw):Dd -> Nw
 | .put i x=>(ins n.1 i.toNat x,n.2.1,n.2.2 ++ [(n.1,n.2.1)])
 | .drop i=>(del n.1 i.toNat,n.2.1,n.2.2 ++ [(n.1,n.2.1)])
 | .widen v=>(n.1,v,n.2.2 ++ [(n.1,n.2.1)])
 | .undo=>match n.2.2.getLast? with
  | some p=>(p.1,p.2,n.2.2.dropLast)
  | none=>n
noncomputable def qIZ (ws:Tc):Dd -> D
 | .drop i=>.str (ws.getD i.toNat [])
 | _=>.none
def nxt (n:Nw) (d:Dd):Nw:=match vX n.1 n.2.1 n.2.2 d with
 | none=>aft n d
 | some _=>n
abbrev gT (a:Addr) (d:Dd):G:=[some (.ob a,2),some (dD d,JZ (dD d)),none]
section
variable {a:Addr} {n:Nw} {d:Dd}
theorem jBU {i:Int} (h:0 <= i):i = (i.toNat:Int):=(vCE h).symm
theorem jXG {i:Int} {x:List Nat} (h:vX n.1 n.2.1 n.2.2 (.put i x) = none):0 <= i /\ i <= n.1.length:=by
 unfold vX at h
 dsimp only at h
 split at h
 ·assumption
 ·cases h
theorem jPV {i:Int} (h:vX n.1 n.2.1 n.2.2 (.drop i) = none):0 <= i /\ i < n.1.length:=by
 unfold vX at h
 dsimp only at h
 split at h
 ·assumption
 ·cases h
theorem jQZ {v:Int} (h:vX n.1 n.2.1 n.2.2 (.widen v) = none):1 <= v /\ ∀ x ∈ n.1,(x.length:Int) <= v:=by
 unfold vX at h
 dsimp only at h
 split at h
 ·cases h
 ·split at h
  ·exact ⟨Int.not_lt.mp (by assumption),by assumption⟩
  ·cases h
theorem jOE (h:vX n.1 n.2.1 n.2.2 .undo = none):∃ ps p,n.2.2 = ps ++ [p]:=by
 unfold vX at h
 dsimp only at h
 split at h
 ·cases h
 ·rename_i hne
  exact ⟨n.2.2.dropLast,n.2.2.getLast hne,(List.dropLast_concat_getLast hne).symm⟩
theorem qLP (hp:Wz.pg a = some (pgN n)) (ok:Okr n.1 n.2.1) (hd:okD d) (hs:n.2.2.length + 1 <= lim) (h:vX n.1 n.2.1 n.2.2 d = none) :
  ja Wz [.ob a,dD d] = some (qIZ n.1 d,XH Wz a (pgN (aft n d))):=by
 refine jDY rfl ?_
 show Jn (Jn (Jr Wz (gT a d)) XN) Zq = _
 cases d with
 | put i x =>
  obtain ⟨hi,-⟩:=jXG h
  have y1:Qb Wz (gT a (.put i x)) = some (true,Wz,(gT a (.put i x))):=by
   unfold Qb;(wp_walk using dD,jWW,t30);rfl
  have x1:Xq Wz (gT a (.put i x)) = some (.none,XH Wz a (pgN (aft n (.put i x))),JX [1,1] (gT a (.put i x))):=by
   unfold Xq
   rw [kr hp]
   have e:=jNG (i:=i.toNat) (x:=x) hp ok.len hd hs (by rw [<- jBU hi];exact h)
   rw [<- jBU hi] at e
   (wp_walk using dD,jWW,t31,t32)
   show Qd Wz _ _ (some (.ok [.int i,.str x])) = _
   unfold Qd
   dsimp only
   rw [e];rfl
  have q1:Jr Wz (gT a (.put i x)) = some (.ret .none (XH Wz a (pgN (aft n (.put i x))))):=by
   unfold Jr
   rw [y1]
   show Jn ((Xq Wz _).map _) _ = _
   rw [x1];rfl
  rw [q1];rfl
 | drop i =>
  obtain ⟨hi,hi2⟩:=jPV h
  have hk:i.toNat < n.1.length:=nT (Int.lt_of_le_of_lt (zP hi) hi2)
  have y1:Jr Wz (gT a (.drop i)) = some (.next (gT a (.drop i)) Wz):=by
   unfold Jr Qb;(wp_walk using dD,jFA,qKF);rfl
  have y2:Q8 Wz (gT a (.drop i)) = some (true,Wz,(gT a (.drop i))):=by
   unfold Q8;(wp_walk using dD,jFA);rfl
  have x1:Xp Wz (gT a (.drop i)) = some (qIZ n.1 (.drop i),XH Wz a (pgN (aft n (.drop i))),JX [1] (gT a (.drop i))):=by
   unfold Xp
   rw [kr hp]
   have e:=jVI (i:=i.toNat) hp ok.len hs (getD_some [] hk)
   rw [<- jBU hi] at e
   (wp_walk using dD,jFA)
   show Qd Wz _ _ (some (.ok [.int i])) = _
   unfold Qd
   dsimp only
   rw [e];rfl
  have q1:J7 Wz (gT a (.drop i)) = some (.ret (qIZ n.1 (.drop i)) (XH Wz a (pgN (aft n (.drop i))))):=by
   unfold J7
   rw [y2]
   show Jn ((Xp Wz _).map _) _ = _
   rw [x1];rfl
  rw [y1]
  show Jn (Jn (J7 Wz _) _) _ = _
  rw [q1];rfl
 | widen v =>
  obtain ⟨h1,h2⟩:=jQZ h
  have y1:Jr Wz (gT a (.widen v)) = some (.next (gT a (.widen v)) Wz):=by
   unfold Jr Qb;(wp_walk using dD,qe,qKD);rfl
  have y2:J7 Wz (gT a (.widen v)) = some (.next (gT a (.widen v)) Wz):=by
   unfold J7 Q8;(wp_walk using dD,qe,qKE);rfl
  have y3:Xn Wz (gT a (.widen v)) = some (true,Wz,(gT a (.widen v))):=by
   unfold Xn;(wp_walk using dD,qe);rfl
  have x1:Xo Wz (gT a (.widen v)) = some (.none,XH Wz a (pgN (aft n (.widen v))),JX [1] (gT a (.widen v))):=by
   unfold Xo
   rw [kr hp]
   have e:=jQY hp ok hs h1 h2
   (wp_walk using dD,qe)
   show Qd Wz _ _ (some (.ok [.int v])) = _
   unfold Qd
   dsimp only
   rw [e];rfl
  have q1:XC Wz (gT a (.widen v)) = some (.ret .none (XH Wz a (pgN (aft n (.widen v))))):=by
   unfold XC
   rw [y3]
   show Jn ((Xo Wz _).map _) _ = _
   rw [x1];rfl
  have z:Qg Wz (gT a (.widen v)) = some (.ret .none (XH Wz a (pgN (aft n (.widen v))))):=by unfold Qg;rw [q1];rfl
  rw [JP (f:=XN) y1 (JP (f:=Qg) y2 z)];rfl
 | undo =>
  obtain ⟨ps,p,hps⟩:=jOE h
  have y1:Jr Wz (gT a .undo) = some (.next (gT a .undo) Wz):=by
   unfold Jr Qb;(wp_walk using dD,jEZ,t10,qLH);rfl
  have y2:J7 Wz (gT a .undo) = some (.next (gT a .undo) Wz):=by
   unfold J7 Q8;(wp_walk using dD,jEZ,t10,qLI);rfl
  have y3:XC Wz (gT a .undo) = some (.next (gT a .undo) Wz):=by
   unfold XC Xn;(wp_walk using dD,jEZ,t10,qNB);rfl
  have ha:aft n .undo = (p.1,p.2,ps):=by unfold aft;rw [hps];simp
  have x1:Y2 Wz (gT a .undo) = some (.none,XH Wz a (pgN (aft n .undo)),(gT a .undo)):=by
   unfold Y2
   rw [kr hp]
   have e:=jVH (Wz:=Wz) (a:=a) (ws:=n.1) (w:=n.2.1) (ps:=ps) (ws':=p.1) (w':=p.2) (by rw [hp];unfold pgN;rw [hps]) (by rw [hps] at hs;simp at hs;exact vBd hs)
   rw [e,ha];rfl
  have q1:ZA Wz (gT a .undo) = some (.ret .none (XH Wz a (pgN (aft n .undo)))):=by
   unfold ZA
   rw [x1];rfl
  have z:XO Wz (gT a .undo) = some (.ret .none (XH Wz a (pgN (aft n .undo)))):=by unfold XO;rw [q1];rfl
  rw [JP (f:=XN) y1 (JP (f:=Qg) y2 (JP (f:=XO) y3 z))];rfl
theorem jNA {k:Int} (hk:k ≠ 0):QP [.int k,dW ws,dD d,.int k] = some (.ok (.bool true,2)):=by
 unfold QP
 rw [Jm (by rfl)]
 show jNM (Jv [some (.int k,2),some (dW ws,0),some (dD d,JZ (dD d)),some (.int k,2)]) = _
 have hk':(k == 0) = false:=by simpa using hk
 unfold Jv
 (wp_walk using QL,hk',jHJ)
 rfl
theorem jQM (ok:Okr n.1 n.2.1) (h:vX n.1 n.2.1 n.2.2 d = none):QP [qIZ n.1 d,dW n.1,dD d,.int 0] = some (.ok (.bool true,2)):=by
 unfold QP
 rw [Jm (by rfl)]
 cases d with
 | put i x =>
  unfold Jv
  (wp_walk using QL,Ql,Qk,dD,jWW,t30,qOY)
  rfl
 | drop i =>
  obtain ⟨hi,hi2⟩:=jPV h
  have e:=QE D.str n.1 i.toNat _ (getD_some [] (nT (Int.lt_of_le_of_lt (zP hi) hi2):i.toNat < n.1.length)) (Xk ok.len)
  rw [<- jBU hi] at e
  show jNM (Jv [some (.str (n.1.getD i.toNat []),2),some (dW n.1,0),some (dD (.drop i),JZ (dD (.drop i))),some (.int 0,2)]) = _
  unfold Jv
  (wp_walk using QL,Ql,Qk,dD,jFA,e)
  rfl
 | widen v =>
  unfold Jv
  (wp_walk using QL,Ql,Qk,dD,qe,qKE)
  rfl
 | undo =>
  unfold Jv
  (wp_walk using QL,Ql,Qk,dD,jEZ,t10,qLI)
  rfl
theorem jUV (xs:List D) (t:D) (h:t.flat = false):D.flats (xs ++ [t]) = false:=by
 induction xs with
 | nil=>show (t.flat && true) = false;rw [h];rfl
 | cons x xs ih=>show (x.flat && D.flats (xs ++ [t])) = false;rw [ih,vCq]
theorem qGA (xs:List D) (t:D) (h:t.flat = false):vg (xs ++ [t]) = 1:=by unfold vg;rw [jUV xs t h];rfl
theorem qBD {xs:List D} {t:D} (h:t.flat = false):jGG occ i (.list (xs ++ [t]),vg (xs ++ [t])) Z = (JX occ Z).set i (some (.list (xs ++ [t]),1)):=by rw [qGA xs t h];rfl
theorem jTS {α:Type} (l:List α) (x:α):Jf (l ++ [x]) none (some (-1)) = l:=by
 unfold Jf
 simp only [Option.elim_none,vCc,(by rw [vBO];unfold clipAt;rw [if_pos (by decide),show (-1:Int) + ((l.length + [x].length:Nat):Int) = l.length from (Int.add_comm _ _).trans (Int.add_sub_cancel (l.length:Int) 1),Int.min_eq_left (Int.ofNat_le.mpr (vBW ..)),Int.max_eq_right (vBi _)];rfl:clipAt (l ++ [x]).length (-1) = l.length),List.drop_zero,Nat.sub_zero]
 exact List.take_left
theorem qDN (ok:Okr n.1 n.2.1) (hs:n.2.2.length + 1 <= lim) (h:vX n.1 n.2.1 n.2.2 d = none):ZN [dW n.1,.int n.2.1,.list (dP n.2.2),dD d] = some (.ok (jVK (aft n d),0)):=by
 unfold ZN
 rw [Jm (by rfl)]
 show jNM (jX [some (dW n.1,0),some (.int n.2.1,2),some (.list (dP n.2.2),0),some (dD d,JZ (dD d))]) = _
 unfold jX
 have tp:yW [dW n.1,.int n.2.1] = some (.ok (.tup [dW n.1,.int n.2.1],0)):=rfl
 have l1:J3 [.tup [dW n.1,.int n.2.1]] = some (.ok (.list [.tup [dW n.1,.int n.2.1]],1)):=rfl
 have ad:=zh (dP n.2.2) [.tup [dW n.1,.int n.2.1]] (by rw [vBO,jED];exact hs)
 have sv:∀ (t:D) (l:Nat),jGG [2,0,1] 2 (.list (dP n.2.2 ++ [.tup [dW n.1,.int n.2.1]]),vg (dP n.2.2 ++ [.tup [dW n.1,.int n.2.1]])) [some (dW n.1,0),some (.int n.2.1,2),some (.list (dP n.2.2),0),some (t,l)] = [some (dW n.1,0),some (.int n.2.1,0),some (.list (dP n.2.2 ++ [.tup [dW n.1,.int n.2.1]]),1),some (t,l)]:=fun t l=>qBD rfl
 have hl:=Z8 ok.len
 cases d with
 | put i x =>
  obtain ⟨hi,hi2⟩:=jXG h
  obtain ⟨k,rfl⟩:=vBu hi
  have hk:k <= n.1.length:=by exact Int.ofNat_le.mp hi2
  have:=ok.len
  have lx:J3 [.str x] = some (.ok (.list ([x].map .str),2)):=rfl
  (wp_walk using Xw,Y8,Y7,dD,jWW,t30,t31,t32,qOX,tp,l1,ad,sv,Yp _ _ _ hl,jBV n.1 k hk,vW n.1 k hk,lx,v6 (n.1.take k) [x] (l_a ok.len),v6 (n.1.take k ++ [x]) (n.1.drop k) (l_b ok.len))
  rw [<- yQ];rfl
 | drop i =>
  obtain ⟨hi,hi2⟩:=jPV h
  obtain ⟨k,rfl⟩:=vBu hi
  have hk:k < n.1.length:=by exact vCb.mp hi2
  have:=ok.len
  have hi1:(k:Int) + 1 = ((k + 1:Nat):Int):=by exact rfl
  (wp_walk using Xw,Y8,Y7,jh,dD,jFA,qOZ,qKF,tp,l1,ad,sv,hi1,Yp _ _ _ hl,jBV n.1 k (vBd hk),vW n.1 (k + 1) hk,v6 (n.1.take k) (n.1.drop (k + 1)) (l_c ok.len))
  rw [<- yQ];rfl
 | widen v =>
  (wp_walk using Xw,Y8,Y7,jh,xU,dD,qe,qOW,qKD,qKE,tp,l1,ad,sv)
  rw [<- yQ];rfl
 | undo =>
  obtain ⟨ps,p,hps⟩:=jOE h
  have ha:aft n .undo = (p.1,p.2,ps):=by unfold aft;rw [hps];simp
  have e1:dP n.2.2 = dP ps ++ [.tup [dW p.1,.int p.2]]:=by rw [hps];exact yQ ps p.1 p.2
  have e2:=zs (dP n.2.2) (.tup [dW p.1,.int p.2]) (by rw [e1,List.getLast?_concat]) (by rw [jED];exact vAz (Nat.le_of_succ_le hs) (by decide):(dP n.2.2).length <= big)
  have e3:=jCW none (some (-1)) (dP n.2.2) (by rw [jED];exact Nat.le_of_succ_le hs)
  rw [(by rw [e1,jTS]:Jf (dP n.2.2) none (some (-1)) = dP ps)] at e3
  rw [ha]
  (wp_walk using Xw,dD,jEZ,t10,e2,e3)
  rfl
end
abbrev gS (a:Addr) (n:Nw) (d:Dd) (x:Option (D × Nat)):G:=[some (.ob a,2),some (jVK n,0),some (dD d,JZ (dD d)),x]
abbrev gR (a:Addr) (n:Nw) (d:Dd) (x:Option (D × Nat)):G:=[some (.ob a,0),some (jVK n,0),some (dD d,0),x]
structure Ok (n:Nw):Prop where
 cur:Okr n.1 n.2.1
 past:∀ p ∈ n.2.2,Okr p.1 p.2
section
variable {a:Addr} {n:Nw} {d:Dd}
theorem jVW (hp:Wz.pg a = some p):XH Wz a p = Wz:=by
 unfold XH
 cases Wz with
 | mk pg hd =>
  congr 1
  funext b
  by_cases h:b = a
  ·rw [if_pos h,h];exact hp.symm
  ·rw [if_neg h]
theorem qJK (ok:Ok n) (hd:okD d):Ok (nxt n d):=by
 unfold nxt
 split
 ·rename_i h
  have past':∀ p ∈ n.2.2 ++ [(n.1,n.2.1)],Okr p.1 p.2:=by
   intro p hp
   rcases vBK.mp hp with hp | hp
   ·exact ok.past p hp
   ·obtain rfl:=vBH.mp hp;exact ok.cur
  cases d with
  | put i x =>
   refine ⟨?_,past'⟩
   obtain ⟨hi,hi2⟩:=jXG h
   unfold vX at h
   dsimp only at h
   rw [if_pos ⟨hi,hi2⟩] at h
   split at h
   ·split at h
    ·cases h
    ·split at h
     ·cases h
     ·rename_i h3 h4
      refine ⟨ok.cur.w1,ok.cur.w2,?_,?_⟩
      ·show (ins n.1 i.toNat x).length <= 120
       rw [ins,vBO,vBO,Nat.add_right_comm,<- vBO,List.take_append_drop];exact Nat.lt_of_not_le h4
      ·intro y hy
       have hy:y ∈ n.1.take i.toNat ++ [x] ++ n.1.drop i.toNat:=hy
       simp only [vBK,vBH] at hy
       rcases hy with (hy | rfl) | hy
       ·exact ok.cur.wd y (List.mem_of_mem_take hy)
       ·exact ⟨hd,Int.not_lt.mp h3⟩
       ·exact ok.cur.wd y (List.mem_of_mem_drop hy)
   ·cases h
  | drop i =>
   refine ⟨⟨ok.cur.w1,ok.cur.w2,?_,?_⟩,past'⟩
   ·show (del n.1 i.toNat).length <= 120
    have:=ok.cur.len
    unfold del;rw [vBO];exact vAz (Nat.add_le_add_left (show (n.1.drop (i.toNat + 1)).length <= (n.1.drop i.toNat).length by rw [vCF,vCF];exact Nat.sub_le_sub_left (vCW _) _) _) (by rw [<- vBO,List.take_append_drop];exact this)
   ·intro y hy
    have hy:y ∈ n.1.take i.toNat ++ n.1.drop (i.toNat + 1):=hy
    simp only [vBK] at hy
    rcases hy with hy | hy
    ·exact ok.cur.wd y (List.mem_of_mem_take hy)
    ·exact ok.cur.wd y (List.mem_of_mem_drop hy)
  | widen v =>
   obtain ⟨h1,h2⟩:=jQZ h
   exact ⟨⟨h1,hd,ok.cur.len,fun y hy=>⟨(ok.cur.wd y hy).1,h2 y hy⟩⟩,past'⟩
  | undo =>
   obtain ⟨ps,p,hps⟩:=jOE h
   rw [(by unfold aft;rw [hps];simp:aft n .undo = (p.1,p.2,ps))]
   exact ⟨ok.past p (by rw [hps];simp),fun q hq=>ok.past q (by rw [hps];exact vBU _ hq)⟩
 ·exact ok
theorem jXW:(nxt n d).2.2.length <= n.2.2.length + 1:=by
 unfold nxt
 split
 ·cases d with
  | put i x=>show (n.2.2 ++ [(n.1,n.2.1)]).length <= _;simp
  | drop i=>show (n.2.2 ++ [(n.1,n.2.1)]).length <= _;simp
  | widen v=>show (n.2.2 ++ [(n.1,n.2.1)]).length <= _;simp
  | undo =>
   unfold aft
   dsimp only
   split
   ·show n.2.2.dropLast.length <= _;rw [List.length_dropLast];exact vBd (Nat.lt_succ_of_le (Nat.sub_le ..))
   ·exact vCW _
 ·exact vCW _
theorem qFF (hp:Wz.pg a = some (pgN n)) (ok:Okr n.1 n.2.1) (hd:okD d) (hs:n.2.2.length + 1 <= lim) :
  jb Wz [.ob a,jVK n,dD d] = some (jVK (nxt n d),XH Wz a (pgN (nxt n d))):=by
 refine jDY rfl ?_
 have q1:ZB Wz (gS a n d none) = some (.next (gS a n d (some (.int (due n.1 n.2.1 n.2.2 d),2))) Wz):=by
  unfold ZB ji
  (wp_walk using t30,t31,t32,qES ok hd)
  rfl
 have hT:=jWD hp ok hd
 cases h:vX n.1 n.2.1 n.2.2 d with
 | some k =>
  obtain ⟨-,-,h3⟩:=jYL h
  rw [h] at hT
  rw [(by unfold due;rw [h]:due n.1 n.2.1 n.2.2 d = jIP k)] at q1
  rw [(by unfold nxt;rw [h]:nxt n d = n),jVW hp]
  have x2:XA Wz (gS a n d (some (.int (jIP k),2))) = some (.int (jIP k),Wz,(gR a n d (some (.int (jIP k),2)))):=by
   unfold XA
   (wp_walk using hT,Option.bind_some)
   rfl
  have x4:Q9 Wz (gS a n d (some (.int (jIP k),2))) = some (.bool true,Wz,(gR a n d (some (.int (jIP k),0)))):=by
   unfold Q9 Y3
   rw [x2,Option.some_or,Option.bind_some]
   unfold ZC
   (wp_walk using t30,jNA h3)
   rfl
  have q3:XE Wz (gS a n d (some (.int (jIP k),2))) = some (.next (gR a n d (some (.int (jIP k),0))) Wz):=by
   unfold XE Y0 Y1
   rw [x4];rfl
  have q4:XD Wz (gR a n d (some (.int (jIP k),0))) = some (.next (gR a n d (some (.int (jIP k),0))) Wz):=by
   unfold XD Y9
   (wp_walk using (by simpa using h3:(jIP k == 0) = false))
   rfl
  exact JP q1 (JP (f:=XB) q3 (JP (f:=jc) q4 rfl))
 | none =>
  rw [h] at hT
  rw [(by unfold due;rw [h]:due n.1 n.2.1 n.2.2 d = 0)] at q1
  rw [(by unfold nxt;rw [h]:nxt n d = aft n d)]
  have x2:XA Wz (gS a n d (some (.int 0,2))) = none:=by
   unfold XA
   (wp_walk using (hT:Yy Wz [.ob a,dD d] = none))
   rfl
  have x1:Y4 Wz (gS a n d (some (.int 0,2))) = some (qIZ n.1 d,XH Wz a (pgN (aft n d)),(gR a n d (some (.int 0,2)))):=by
   unfold Y4
   (wp_walk using jKD)
   unfold Qd
   dsimp only
   rw [qLP hp ok hd hs h];rfl
  have x4:Q9 Wz (gS a n d (some (.int 0,2))) = some (.bool true,XH Wz a (pgN (aft n d)),(gR a n d (some (.int 0,0)))):=by
   unfold Q9 Y3
   rw [x2,Option.none_or,x1,Option.bind_some]
   unfold ZC
   (wp_walk using t30,jQM ok h)
   rfl
  have q3:XE Wz (gS a n d (some (.int 0,2))) = some (.next (gR a n d (some (.int 0,0))) (XH Wz a (pgN (aft n d)))):=by
   unfold XE Y0 Y1
   rw [x4];rfl
  have q4:XD (XH Wz a (pgN (aft n d))) (gR a n d (some (.int 0,0))) = some (.ret (jVK (aft n d)) (XH Wz a (pgN (aft n d)))):=by
   unfold XD Y9
   (wp_walk using t30,t31,t32,qDN ok hs h)
   rfl
  have z:XB (XH Wz a (pgN (aft n d))) (gR a n d (some (.int 0,0))) = some (.ret (jVK (aft n d)) (XH Wz a (pgN (aft n d)))):=by
   unfold XB;rw [q4];rfl
  exact JP q1 (JP (f:=XB) q3 z)
theorem jLK (k:Int) (hd:okD d):∃ gs:List Dd,∃ lv,Q6 [.int k,dD d] = some (.ok (.list (gs.map dD),lv)) /\ (∀ g ∈ gs,okD g) /\ gs.length <= 2:=by
 unfold Q6
 rw [Jm (by rfl)]
 show ∃ gs:List Dd,∃ lv,jNM (X8 [some (.int k,2),some (dD d,JZ (dD d))]) = _ /\ _
 unfold X8
 have r2:∀ b:Dd,okD b -> ∀ g ∈ [b,d],okD g:=fun b hb g hg=>by
  rcases vCu.mp hg with rfl | hg
  ·exact hb
  ·obtain rfl:=vBH.mp hg;exact hd
 by_cases h1:k = 12
 ·subst h1
  cases d with
  | put i x =>
   refine ⟨[.widen x.length,.put i x],2,?_,r2 _ (by show (x.length:Int) <= _;have:x.length <= 400:=hd;exact lZ [((x.length:Nat):Int)] (.v 0) (.n 1000000000000000000000000000000) [(.v 0,.n 400)] rT (zL this)),vBI _⟩
   (wp_walk using Jp,dD,jWW,t30,t32,jU _ (gL x hd))
   rfl
  | drop i=>exact ⟨[],2,by (wp_walk using Jp,dD,jFA,qKF);rfl,fun _ h=>(nomatch h),by decide⟩
  | widen i=>exact ⟨[],2,by (wp_walk using Jp,dD,qe,qKD);rfl,fun _ h=>(nomatch h),by decide⟩
  | undo=>exact ⟨[],2,by (wp_walk using Jp,dD,jEZ,t10,qLH);rfl,fun _ h=>(nomatch h),by decide⟩
 ·have h1':(k == 12) = false:=by simpa using h1
  by_cases h2:k = 19
  ·subst h2
   refine ⟨[.drop 0,d],vg [dD (.drop 0),dD d],?_,r2 _ trivial,vBI _⟩
   (wp_walk using Jp,XJ,h1')
   rfl
  ·have h2':(k == 19) = false:=by simpa using h2
   by_cases h3:k = 20
   ·subst h3
    refine ⟨[.put 0 [97],d],vg [dD (.put 0 [97]),dD d],?_,r2 _ (by show [97].length <= 400;decide),vBI _⟩
    (wp_walk using Jp,XJ,YN,h1',h2')
    rfl
   ·have h3':(k == 20) = false:=by simpa using h3
    refine ⟨[],2,?_,fun _ h=>(nomatch h),by decide⟩
    (wp_walk using Jp,XJ,YN,jP,h1',h2',h3')
    rfl
end
theorem p30:jOU [.int 10,.int 30] = some (.ok (.int 1000000000000000000000000000000,2)):=by rw [qEC,if_pos (by decide +kernel)];rfl
theorem qOU (m:Int) (h1:0 <= m) (h2:m < 4):m = 0 \/ m = 1 \/ m = 2 \/ m = 3:=by
 obtain ⟨k,rfl⟩:=vBu h1
 exact (by decide:∀ k:Nat,k < 4 -> ((k:Int) = 0 \/ (k:Int) = 1 \/ (k:Int) = 2 \/ (k:Int) = 3)) k (nT h2)
theorem qKB (m:Int):m.fmod 4 = 0 \/ m.fmod 4 = 1 \/ m.fmod 4 = 2 \/ m.fmod 4 = 3:=qOU _ (vBN _ (by decide)) (vBS _ (by decide))
theorem jLL {p:Int -> Prop} {m:Int}:∀ n:Nat,0 <= m -> m < n -> (∀ k:Nat,k < n -> p k) -> p m:=fun n h0 h1 h=>vCE h0 ▸ h m.toNat ((Int.toNat_lt h0).mpr h1)
theorem jZB (m:Int):m.fmod 2 = 0 \/ m.fmod 2 = 1:=jLL (p:=fun x=>x = 0 \/ x = 1) 2 (vBN m (by decide)) (vBS m (by decide)) (by decide)
theorem qKA (m:Int):m.fmod 5 = 0 \/ m.fmod 5 = 1 \/ m.fmod 5 = 2 \/ m.fmod 5 = 3 \/ m.fmod 5 = 4:=jLL (p:=fun x=>x = 0 \/ x = 1 \/ x = 2 \/ x = 3 \/ x = 4) 5 (vBN m (by decide)) (vBS m (by decide)) (by decide)
theorem jDF (more count:Int) (hc:0 <= count):∃ i lv,QO [.int more,.int count] = some (.ok (.int i,lv)):=by
 have hc3:count + 3 ≠ 0:=by exact fun eq=>fZ (lZ [_] (.n 1) (.n 0) [(.n 0,.v 0),(.a (.v 0) (.n 3),.n 0)] rT hc (Int.le_of_eq eq))
 have hg:Xm 0 [.int more,.int count] = [some (.int more,2),some (.int count,2)]:=rfl
 have it4:∀ x y z u:Int,∀ m:Int,(m = 0 \/ m = 1 \/ m = 2 \/ m = 3) -> ∃ i,JL [.list [.int x,.int y,.int z,.int u],.int m] = some (.ok (.int i,0)):=by
  intro x y z u m h
  rcases h with rfl | rfl | rfl | rfl <;> exact ⟨_,rfl⟩
 have it:∃ i,JL [.list [.int (-2),.int (count + 3),.int 1000000000000000000000000000000,.int (-1000000000000000000000000000000)],.int (more.fmod 4)] = some (.ok (.int i,0)):=by
  exact it4 _ _ _ _ _ (qKB more)
 obtain ⟨i,it⟩:=it
 have l4:J3 [.int (-2),.int (count + 3),.int 1000000000000000000000000000000,.int (-1000000000000000000000000000000)] = some (.ok (.list [.int (-2),.int (count + 3),.int 1000000000000000000000000000000,.int (-1000000000000000000000000000000)],2)):=rfl
 cases h:((more.fdiv 7).fmod 16 == 1) with
 | true =>
  refine ⟨i,0,?_⟩
  unfold QO
  rw [Jm (by rfl),hg]
  unfold YY
  (wp_walk using Yq,h,p30,l4,it)
  rfl
 | false =>
  refine ⟨more.fmod (count + 3) - 1,2,?_⟩
  unfold QO
  rw [Jm (by rfl),hg]
  unfold YY
  (wp_walk using Yq,ju,h,zE _ _ hc3)
  rfl
theorem jIL (c:Int):∃ w lv,QM [.int c] = some (.ok (.int w,lv)) /\ 1 <= w /\ w <= 1000000000000000000000000000000:=by
 have hg:Xm 0 [.int c] = [some (.int c,2)]:=rfl
 have m4:((c.fdiv 72).fmod 5).fdiv 4 = 0 \/ ((c.fdiv 72).fmod 5).fdiv 4 = 1:=by
  rcases qKA (c.fdiv 72) with h | h | h | h | h <;> rw [h] <;> decide
 have it:∃ w,JL [.list [.int (25 + (c.fdiv 72).fmod 120),.int 1000000000000000000000000000000],.int (((c.fdiv 72).fmod 5).fdiv 4)] = some (.ok (.int w,0)) /\ 1 <= w /\ w <= 1000000000000000000000000000000:=by
  rcases m4 with h | h <;> rw [h]
  ·exact ⟨25 + (c.fdiv 72).fmod 120,rfl,Int.le_trans (by decide) (Int.add_le_add_left (⟨vBN _ (by decide),vBS _ (by decide)⟩:0 <= (c.fdiv 72).fmod 120 /\ (c.fdiv 72).fmod 120 < 120).1 25),Int.le_trans (Int.add_le_add_left (Int.le_of_lt (⟨vBN _ (by decide),vBS _ (by decide)⟩:0 <= (c.fdiv 72).fmod 120 /\ (c.fdiv 72).fmod 120 < 120).2) 25) (by decide)⟩
  ·exact ⟨_,rfl,by decide,by decide⟩
 obtain ⟨w,it,w1,w2⟩:=it
 have l2:J3 [.int (25 + (c.fdiv 72).fmod 120),.int 1000000000000000000000000000000] = some (.ok (.list [.int (25 + (c.fdiv 72).fmod 120),.int 1000000000000000000000000000000],2)):=rfl
 cases h:((c.fdiv 24).fmod 3 == 1) with
 | true =>
  refine ⟨w,0,?_,w1,w2⟩
  unfold QM
  rw [Jm (by rfl),hg]
  unfold Xe
  (wp_walk using X9,h,p30,l2,it)
  rfl
 | false =>
  refine ⟨1 + c.fmod 24,2,?_,Int.add_le_add_left (⟨vBN _ (by decide),vBS _ (by decide)⟩:0 <= c.fmod 24 /\ c.fmod 24 < 24).1 _,Int.le_trans (Int.add_le_add_left (Int.le_of_lt (⟨vBN _ (by decide),vBS _ (by decide)⟩:0 <= c.fmod 24 /\ c.fmod 24 < 24).2) 1) (by decide)⟩
  unfold QM
  rw [Jm (by rfl),hg]
  unfold Xe
  (wp_walk using X9,Zz,h)
  rfl
theorem jOV (w:Int) (h:w < 1):Xz [.int w] = some (.ok (.int 1,2)):=by
 have hP:jGZ [.int w] = some (.exc "NoWidth"):=by unfold jGZ;dsimp only;rw [xd w h]
 have hg:Xm 1 [.int w] = [some (.int w,2),none]:=rfl
 unfold Xz
 rw [Jm (by rfl),hg]
 unfold jn qY qHV
 (wp_walk using hP)
 rfl
theorem qDY (m:Int) (h:m = 0 \/ m = 1):∃ ch,JL [.str [32,10],.int m] = some (.ok (.str [ch],2)):=by rcases h with rfl | rfl <;> exact ⟨_,rfl⟩
theorem qFZ (ch:Nat) (m:Int) (h:m = 0 \/ m = 1):∃ y:List Nat,jBG [.str [ch],.int (1 + m)] = some (.ok (.str y,2)) /\ y.length <= 400:=by
 rcases h with rfl | rfl
 ·exact ⟨[ch],rfl,by simp⟩
 ·exact ⟨[ch,ch],rfl,by simp⟩
theorem qBZ (s:List Nat) (b:Bool) (h:s.length <= 400):∃ y:List Nat,jBG [.str s,.int (if b then 1 else 0)] = some (.ok (.str y,2)) /\ y.length <= 400:=by
 cases b with
 | true =>
  refine ⟨jTY s (1:Nat),jCD s 1 (by rw [Nat.mul_one];exact vAz h (by decide)) (by decide),?_⟩
  unfold jTY;simp;exact h
 | false =>
  refine ⟨jTY s (0:Nat),jCD s 0 (by rw [Nat.mul_zero];exact vBz _) (by decide),?_⟩
  unfold jTY;simp
theorem qKO (x:List Nat) (m:Int) (h0:0 <= m) (h1:m <= x.length) (hl:x.length <= 300):kq none (some m) (.str x) = some (.ok (.str (x.take m.toNat),2)):=by
 unfold kq zj
 dsimp only
 rw [if_pos (vAz hl (by decide)),if_pos ⟨h0,h1⟩];rfl
theorem qDI (x:List Nat) (m:Int) (h0:0 <= m) (h1:m <= x.length) (hl:x.length <= 300):kq (some m) none (.str x) = some (.ok (.str (x.drop m.toNat),2)):=by
 unfold kq zj
 dsimp only
 rw [if_pos (vAz hl (by decide)),if_pos ⟨h0,h1⟩];rfl
noncomputable def jWX:D:=.tup [.str [102,105,108,108]]
theorem jZT (Z0z:Option (D × Nat)) (cell count k more:Int) (hc:0 <= count) (hk:k < 8):∃ d,okD d /\ Jl [some (.int cell,2),some (.int count,2),some (.int k,2),some (.int more,2),none,none,none] = some (.ret (dD d) 2):=by
 obtain ⟨i,lv,ei⟩:=jDF more count hc
 obtain ⟨x0,hx0,ex0⟩:=jTJ (more.fdiv 50)
 obtain ⟨x1,hx1,ex1⟩:=jQO (more.fdiv 50) (1 + ((more.fdiv 8).fmod 4).toNat) (vBW ..) (by rw [Nat.add_comm];exact (Int.toNat_lt (⟨vBN _ (by decide),vBS _ (by decide)⟩:0 <= (more.fdiv 8).fmod 4 /\ (more.fdiv 8).fmod 4 < 4).1).mpr (⟨vBN _ (by decide),vBS _ (by decide)⟩:0 <= (more.fdiv 8).fmod 4 /\ (more.fdiv 8).fmod 4 < 4).2)
 rw [(congrArg (1 + ·) (vCE (⟨vBN _ (by decide),vBS _ (by decide)⟩:0 <= (more.fdiv 8).fmod 4 /\ (more.fdiv 8).fmod 4 < 4).1):((1 + ((more.fdiv 8).fmod 4).toNat:Nat):Int) = 1 + (more.fdiv 8).fmod 4)] at ex1
 obtain ⟨ch1,ec1⟩:=qDY _ (jZB more)
 obtain ⟨ch2,ec2⟩:=qDY _ (jZB (more.fdiv 7))
 obtain ⟨y2,ey2,hy2⟩:=qFZ ch2 _ (jZB (more.fdiv 14))
 have tp:∀ y:List Nat,yW [.str [112,117,116],.int i,.str y] = some (.ok (.tup [.str [112,117,116],.int i,.str y],2)):=fun _=>rfl
 have hx:∃ x:List Nat,jXU x /\ ((more.fmod 4 == 3) = true /\ Qo [.int (more.fdiv 50),.int (1 + (more.fdiv 8).fmod 4)] = some (.ok (.str x,2)) \/ (more.fmod 4 == 3) = false /\ x = x0):=by
  cases h:(more.fmod 4 == 3) with
  | true=>exact ⟨x1,hx1,.inl ⟨rfl,ex1⟩⟩
  | false=>exact ⟨x0,hx0,.inr ⟨rfl,rfl⟩⟩
 obtain ⟨x,⟨hx1,hx2,-⟩,hcase⟩:=hx
 have hm0:=vBN (more.fdiv 950) (Int.lt_add_one_of_le (vBi _):0 < (x.length:Int) + 1)
 have hm1:=vBS (more.fdiv 950) (Int.lt_add_one_of_le (vBi _):0 < (x.length:Int) + 1)
 generalize hat:(more.fdiv 950).fmod ((x.length:Int) + 1) = at_ at hm0 hm1
 have ea1:=qKO x at_ hm0 (Int.le_of_lt_add_one hm1) hx2
 have ea2:=qDI x at_ hm0 (Int.le_of_lt_add_one hm1) hx2
 have s1:=zg (x.take at_.toNat) [ch1] (by unfold lim;simp;exact vAz (vAz (Nat.min_le_right ..) hx2) (by decide))
 have s2:=zg (x.take at_.toNat ++ [ch1]) (x.drop at_.toNat) (by unfold lim;simp;exact vAz (vCp (vAz (Nat.min_le_right ..) hx2) (vCf (vAz (Nat.sub_le ..) hx2) _)) (by decide))
 obtain ⟨y1,ey1,hy1⟩:=qBZ (x.take at_.toNat ++ [ch1] ++ x.drop at_.toNat) (decide (0 < more.fmod 7)) (by rw [vBO,vBO,Nat.add_right_comm,(by rw [<- vBO,List.take_append_drop]:(x.take at_.toNat).length + (x.drop at_.toNat).length = x.length)];exact vAz (vBl hx2) (by decide))
 have hlen:YA [.str x] = some (.ok (.int x.length,2)):=jU _ (gL x (vAz hx2 (by decide)))
 have hmod:jM [.int (more.fdiv 950),.int ((x.length:Int) + 1)] = some (.ok (.int at_,2)):=by rw [zE _ _ (Int.ne_of_gt (Int.lt_add_one_of_le (vBi _):0 < (x.length:Int) + 1):(x.length:Int) + 1 ≠ 0),hat]
 have hk':decide (k < 8) = true:=vBk hk
 cases h2:((more.fdiv 50).fmod 19 == 1) with
 | false =>
  refine ⟨.put i x,vAz hx2 (by decide),?_⟩
  rcases hcase with ⟨c1,ew⟩ | ⟨c1,rfl⟩
  ·(wp_walk using Jl,hk,ex0,c1,ew,h2,ei,tp);rfl
  ·(wp_walk using Jl,hk,ex0,c1,h2,ei,tp);rfl
 | true =>
  cases h3:(more.fmod 7 == 1) with
  | false =>
   refine ⟨.put i y1,hy1,?_⟩
   rcases hcase with ⟨c1,ew⟩ | ⟨c1,rfl⟩
   ·(wp_walk using Jl,hk,ex0,c1,ew,h2,h3,hlen,hmod,ea1,ea2,ec1,s1,s2,ey1,ei,tp);rfl
   ·(wp_walk using Jl,hk,ex0,c1,h2,h3,hlen,hmod,ea1,ea2,ec1,s1,s2,ey1,ei,tp);rfl
  | true =>
   refine ⟨.put i y2,hy2,?_⟩
   rcases hcase with ⟨c1,ew⟩ | ⟨c1,rfl⟩
   ·(wp_walk using Jl,hk,ex0,c1,ew,h2,h3,hlen,hmod,ea1,ea2,ec1,s1,s2,ey1,ec2,ey2,ei,tp);rfl
   ·(wp_walk using Jl,hk,ex0,c1,h2,h3,hlen,hmod,ea1,ea2,ec1,s1,s2,ey1,ec2,ey2,ei,tp);rfl
theorem jUZ (cell count:Int) (hc:0 <= count):∃ lv,(∃ d,okD d /\ XG [.int cell,.int count] = some (.ok (dD d,lv))) \/ XG [.int cell,.int count] = some (.ok (jWX,lv)):=by
 have hg:Xm 5 [.int cell,.int count] = [some (.int cell,2),some (.int count,2),none,none,none,none,none]:=rfl
 unfold XG
 rw [Jm (by rfl),hg]
 unfold jp
 have e1:ZU [some (.int cell,2),some (.int count,2),none,none,none,none,none] = some (.next [some (.int cell,2),some (.int count,2),some (.int (cell.fmod 16),2),none,none,none,none]):=by (wp_walk using ZU)
 have e2:ZT [some (.int cell,2),some (.int count,2),some (.int (cell.fmod 16),2),none,none,none,none] = some (.next [some (.int cell,2),some (.int count,2),some (.int (cell.fmod 16),2),some (.int (cell.fdiv 16),2),none,none,none]):=by (wp_walk using ZT)
 rw [jl,e1,Za,jl,e2,Za,jl]
 generalize cell.fmod 16 = k
 generalize cell.fdiv 16 = more
 obtain ⟨i,lv,ei⟩:=jDF more count hc
 by_cases h1:k < 8
 ·obtain ⟨d,hd,e⟩:=jZT none cell count k more hc h1
  exact ⟨2,.inl ⟨d,hd,by rw [e];rfl⟩⟩
 ·rw [(by (wp_walk using Jl,h1):Jl [some (.int cell,2),some (.int count,2),some (.int k,2),some (.int more,2),none,none,none] = some (.next [some (.int cell,2),some (.int count,2),some (.int k,2),some (.int more,2),none,none,none])),Za]
  by_cases h2:k < 11
  ·refine ⟨2,.inl ⟨.drop i,trivial,?_⟩⟩
   (wp_walk using QT,h2,ei)
   rfl
  ·by_cases h3:k < 13
   ·have l2:J3 [.int 1000000000000000000000000000000,.int (-1000000000000000000000000000000)] = some (.ok (.list [.int 1000000000000000000000000000000,.int (-1000000000000000000000000000000)],2)):=rfl
    have i2:∃ g:Int,JL [.list [.int 1000000000000000000000000000000,.int (-1000000000000000000000000000000)],.int ((more.fdiv 4).fmod 2)] = some (.ok (.int g,0)) /\ g <= 1000000000000000000000000000000:=by
     rcases jZB (more.fdiv 4) with h | h <;> rw [h]
     ·exact ⟨_,rfl,by decide⟩
     ·exact ⟨_,rfl,by decide⟩
    obtain ⟨g,i2,hg2⟩:=i2
    have l4:J3 [.int (more.fmod 42 - 1),.int (42 + (more.fdiv 4).fmod 120),.int g,.int ((more.fdiv 4).fmod 42)] = some (.ok (.list [.int (more.fmod 42 - 1),.int (42 + (more.fdiv 4).fmod 120),.int g,.int ((more.fdiv 4).fmod 42)],2)):=rfl
    have i4:∃ v:Int,JL [.list [.int (more.fmod 42 - 1),.int (42 + (more.fdiv 4).fmod 120),.int g,.int ((more.fdiv 4).fmod 42)],.int (more.fmod 4)] = some (.ok (.int v,0)) /\ v <= 1000000000000000000000000000000:=by
     rcases qKB more with h | h | h | h <;> rw [h]
     ·exact ⟨more.fmod 42 - 1,rfl,by exact lZ [_] (.s (.v 0) (.n 1)) (.n 1000000000000000000000000000000) [(.a (.v 0) (.n 1),.n 42)] rT (⟨vBN _ (by decide),vBS _ (by decide)⟩:0 <= more.fmod 42 /\ more.fmod 42 < 42).2⟩
     ·exact ⟨42 + (more.fdiv 4).fmod 120,rfl,by exact lZ [_] (.a (.n 42) (.v 0)) (.n 1000000000000000000000000000000) [(.a (.v 0) (.n 1),.n 120)] rT (⟨vBN _ (by decide),vBS _ (by decide)⟩:0 <= (more.fdiv 4).fmod 120 /\ (more.fdiv 4).fmod 120 < 120).2⟩
     ·exact ⟨g,rfl,hg2⟩
     ·exact ⟨(more.fdiv 4).fmod 42,rfl,by exact Int.le_of_lt (Int.lt_trans (⟨vBN _ (by decide),vBS _ (by decide)⟩:0 <= (more.fdiv 4).fmod 42 /\ (more.fdiv 4).fmod 42 < 42).2 (by decide))⟩
    obtain ⟨v,i4,hv⟩:=i4
    refine ⟨2,.inl ⟨.widen v,hv,?_⟩⟩
    (wp_walk using QT,Q0,h2,h3,p30,l2,i2,l4,i4)
    rfl
   ·cases h4:(k == 15) with
    | false =>
     refine ⟨2,.inl ⟨.undo,trivial,?_⟩⟩
     (wp_walk using QT,Q0,X4,ZS,h2,h3,h4)
     rfl
    | true =>
     cases h5:(more.fmod 4 == 1) with
     | false =>
      refine ⟨2,.inl ⟨.undo,trivial,?_⟩⟩
      (wp_walk using QT,Q0,X4,ZS,h2,h3,h4,h5)
      rfl
     | true =>
      refine ⟨2,.inr ?_⟩
      (wp_walk using QT,Q0,X4,h2,h3,h4,h5)
      rfl
theorem jPZ (cell w:Int) (count:Nat) (f:Bool):∃ ds:List Dd,∃ lv,Xa [.int cell,.int count,.int w,.bool f] = some (.ok (.list (ds.map dD),lv)) /\ (∀ d ∈ ds,okD d) /\ ds.length <= 119:=by
 have hg:Xm 1 [.int cell,.int count,.int w,.bool f] = [some (.int cell,2),some (.int count,2),some (.int w,2),some (.bool f,2),none]:=rfl
 unfold Xa
 rw [Jm (by rfl),hg]
 unfold jC
 obtain ⟨lv,⟨d,hd,e⟩ | e⟩:=jUZ cell count (vBi _)
 ·refine ⟨[d],vg [dD d],?_,fun x hx=>by obtain rfl:=vBH.mp hx;exact hd,by simp⟩
  have hsv:∀ Z:G,jGG [0,1] 4 (dD d,lv) Z = Z.set 4 (some (dD d,2)):=by intro Z;cases d <;> rfl
  have hi:∃ k:List Nat,JL [dD d,.int 0] = some (.ok (.str k,0)) /\ (k == [102,105,108,108]) = false:=by
   cases d
   ·exact ⟨jWW,rfl,rfl⟩
   ·exact ⟨jFA,rfl,rfl⟩
   ·exact ⟨qe,rfl,rfl⟩
   ·exact ⟨jEZ,rfl,rfl⟩
  obtain ⟨k,hi,hk⟩:=hi
  (wp_walk using QK,QJ,e,hsv,hi,hk)
  rfl
 ·have hsv:∀ Z:G,jGG [0,1] 4 (jWX,lv) Z = Z.set 4 (some (jWX,2)):=fun Z=>rfl
  have hi:JL [jWX,.int 0] = some (.ok (.str [102,105,108,108],0)):=rfl
  have tu:yW [.str [117,110,100,111]] = some (.ok (dD .undo,2)):=rfl
  have lu:J3 [dD .undo] = some (.ok (.list ([Dd.undo].map dD),2)):=rfl
  have ho:∀ x ∈ [Dd.undo],okD x:=fun x hx=>by obtain rfl:=vBH.mp hx;trivial
  cases f with
  | true =>
   refine ⟨[.undo],2,?_,ho,by decide⟩
   (wp_walk using QK,QJ,Qj,e,hsv,hi,tu,lu)
   rfl
  | false =>
   by_cases h1:(117:Int) < count
   ·refine ⟨[.undo],2,?_,ho,by decide⟩
    (wp_walk using QK,QJ,Qj,e,hsv,hi,h1,tu,lu)
    rfl
   ·by_cases h2:99 < w
    ·refine ⟨[.undo],2,?_,ho,by decide⟩
     (wp_walk using QK,QJ,Qj,e,hsv,hi,h1,h2,tu,lu)
     rfl
    ·have hn:(119:Int) - count = ((119 - count:Nat):Int):=(Int.ofNat_sub (nL (Int.le_trans (Int.not_lt.mp h1) (by decide)))).symm
     have hr:=jR (119 - count) (vAz (Nat.sub_le _ _) (by decide))
     have hcomp:=Yh (fE:=Xf) (cap:=[0]) (Z:=[some (.int cell,2),some (.int count,2),some (.int w,2),some (.bool false,2),some (jWX,2)]) (fun (i:Nat)=>.int (i:Int)) (fun i=>dD (.put 0 [Zb (cell + i)])) (List.range (119 - count)) (by
      intro i _
      refine ⟨2,?_⟩
      show Xf [some (.int (i:Int),2),some (.int cell,0)] = _
      (wp_walk using Xf,zk)
      rfl)
     refine ⟨(List.range (119 - count)).map fun (i:Nat)=>.put 0 [Zb (cell + i)],vg ((List.range (119 - count)).map fun (i:Nat)=>dD (.put 0 [Zb (cell + i)])),?_,?_,by rw [vBF,vCB];exact Nat.sub_le _ _⟩
     ·(wp_walk using QK,QJ,Qj,jv,e,hsv,hi,h1,h2,hn,hr,hcomp)
      rw [vCJ]
      rfl
     ·intro d hd
      obtain ⟨i,-,rfl⟩:=vBa.mp hd
      show [Zb (cell + i)].length <= 400
      simp
section
variable {W T:List D} {L v:Option (D × Nat)} {s e a n l te ta c s' g:Int} {x:List Nat}
theorem qFJ (x1:JL [.list W,.int (e - 1)] = some (.ok (.str x,0))) (x2:YA [.str x] = some (.ok (.int l,2))) (x4:s + 1 + l = s') (x5:¬ w < s') (xl:YA [.list W] = some (.ok (.int n,2))) (y1:JL [.list T,.int e] = some (.ok (.int te,0))) (xa:JL [.list T,.int a] = some (.ok (.int ta,0))) (hp:Prc w s' e n te c) {b:Bool} (y3:(ta == c) = b) :
  Jb [some (.list W,0),some (.int w,2),some (.list T,0),L,some (.int a,2),some (.int s,2),some (.int g,2),some (.int e,2)] = some (.next [some (.list W,0),some (.int w,2),some (.list T,0),L,some (.int a,2),some (.int s',2),some (.int (bif b then e else g),2),some (.int e,2)]):=by
 obtain ⟨p,q,r,y2,hq,y4,hc⟩:=hp
 cases b <;> (wp_walk using Jb,x1,x2,x4,x5,y1,y2,xl,hq,y4,hc,xa,y3,cond_true,cond_false)
theorem qIS (x1:JL [.list W,.int (e - 1)] = some (.ok (.str x,0))) (x2:YA [.str x] = some (.ok (.int l,2))) (x4:s + 1 + l = s') (x5:w < s') :
  Jb [some (.list W,0),some (.int w,2),some (.list T,0),L,some (.int a,2),some (.int s,2),v,some (.int e,2)] = some (.brk [some (.list W,0),some (.int w,2),some (.list T,0),L,some (.int a,2),some (.int s',2),v,some (.int e,2)]):=by
 (wp_walk using Jb,x1,x2,x4,x5)
end
theorem qFK {L y7:Option (D × Nat)} (hl:ws.length <= 2000) (hw:∀ w ∈ ws,w.length <= 1000) (hwb:w.natAbs <= 1000000000000000000000000000000000000) (hR:jNF ws w T) (a:Nat) (ha:a < ws.length):∃ s v,jLT [] 7 Qm Jb [some (.list (ws.map .str),0),some (.int w,2),some (.list (T.map .int),0),L,some (.int (a:Int),2),some (.int (-1),2),some (.int ((a + 1:Nat):Int),2),y7] = some (.next [some (.list (ws.map .str),0),some (.int w,2),some (.list (T.map .int),0),L,some (.int (a:Int),2),s,some (.int (jCC ws w T a:Nat),2),v]):=by
 have hT:=hR.1
 have hTb:T.length <= big:=hT ▸ xr (vBh hl (by decide))
 obtain ⟨Z,⟨s,v,p⟩,e⟩:=jJM (ws:=ws) (w:=w) (a:=a) (fB:=Jb) (ix:=7) (fun Z=>∃ s v,Z = [some (.list (ws.map .str),0),some (.int w,2),some (.list (T.map .int),0),L,some (.int (a:Int),2),s,some (.int (jCC ws w T a:Nat),2),v])
  (fun i v=>[some (.list (ws.map .str),0),some (.int w,2),some (.list (T.map .int),0),L,some (.int (a:Int),2),some (.int (sI ws a i),2),some (.int ((a + 1 + jDP (isB ws w T a) i:Nat):Int),2),v]) (fun _ _ _=>rfl) y7
  (fun i hi h hle=>by
   refine (qFJ (jTK hl h) (jFY hw h) (zm h) (Int.not_lt.mpr hle) (JU D.str ws (Z9 hl)) (QE D.int T (a + 1 + i) _ (getD_some 0 (by rw [hT,Nat.add_right_comm];exact Nat.succ_lt_succ h)) hTb) (QE D.int T a _ (getD_some 0 (hT ▸ Nat.lt_succ_of_lt ha)) hTb) (qEB hl hw hwb hR.2.1 h) (b:=isB ws w T a i) rfl).trans ?_
   rw [jDP]
   cases isB ws w T a i <;> rfl)
  (fun i hi h hout=>by
   subst hi
   exact ⟨_,⟨_,_,rfl⟩,qIS (jTK hl h) (jFY hw h) (zm h) hout⟩)
  (fun v=>⟨_,_,rfl⟩)
 exact ⟨s,v,(jA (by (wp_walk using Qm,(JU D.str ws (Z9 hl)),jWY hl ha))).trans (p ▸ e)⟩
theorem qIR (ws:Tc) (w:Int) (T:List Int) (hl:ws.length <= 2000) (hw:∀ w ∈ ws,w.length <= 1000) (hwb:w.natAbs <= 1000000000000000000000000000000000000) (hR:jNF ws w T):∀ (k fuel a:Nat) (acc:List Nat) (y5 y6 y7:Option (D × Nat)),ws.length - a <= k -> k + 1 <= fuel -> a <= ws.length -> acc.length <= a -> 
  ∃ z5 z6 z7,Zp Jh QA fuel [some (.list (ws.map .str),0),some (.int w,2),some (.list (T.map .int),0),some (.list ((nz acc).map .int),2),some (.int (a:Int),2),y5,y6,y7] =
   some (.next [some (.list (ws.map .str),0),some (.int w,2),some (.list (T.map .int),0),some (.list ((nz (acc ++ bl ws w T k a)).map .int),2),some (.int (ws.length:Int),2),z5,z6,z7]):=by
 intro k
 induction k with
 | zero =>
  intro fuel a acc y5 y6 y7 h1 h2 h3 h4
  obtain ⟨f,rfl⟩:∃ f,fuel = f + 1:=⟨fuel - 1,(Nat.succ_pred_eq_of_pos (vCP (vBr _) h2)).symm⟩
  have he:a = ws.length:=vCI h3 (Nat.le_of_sub_eq_zero (Nat.le_zero.mp h1))
  subst he
  rw [bl,List.append_nil]
  exact ⟨y5,y6,y7,vV (by (wp_walk using Jh,(JU D.str ws (Z9 hl)),(by exact Int.not_lt.mpr (Int.le_refl _):¬ ((ws.length:Int) < ws.length))))⟩
 | succ k ih =>
  intro fuel a acc y5 y6 y7 h1 h2 h3 h4
  obtain ⟨f,rfl⟩:∃ f,fuel = f + 1:=⟨fuel - 1,(Nat.succ_pred_eq_of_pos (vCP (vBr _) h2)).symm⟩
  rw [bl]
  by_cases ha:a < ws.length
  ·obtain ⟨n1,n2,n3,n4,n5⟩:=jPA hR ha
   obtain ⟨s,v,e3⟩:=qFK (L:=some (.list ((nz (acc ++ [a])).map .int),2)) (y7:=y7) hl hw hwb hR a ha
   obtain ⟨z5,z6,z7,this⟩:=ih f (jCC ws w T a) (acc ++ [a]) s (some (.int (jCC ws w T a:Nat),2)) v (vAz (Nat.sub_le_sub_left n1 _) (Nat.pred_le_pred h1)) (Nat.le_of_lt_succ h2) n2 (by rw [vBO];exact vAz (vBl h4) n1)
   rw [if_pos ha]
   rw [vCC] at this
   refine ⟨z5,z6,z7,(jKO (by (wp_walk using Jh,(JU D.str ws (Z9 hl)),(by exact vCb.mpr ha:((a:Int) < ws.length)))) ?_).trans this⟩
   (wp_walk using QA,(zf (occ:=[4]) (i:=3) (f:=fun Z=>JH 4 Z) (Z:=[some (.list (ws.map .str),0),some (.int w,2),some (.list (T.map .int),0),some (.list ((nz acc).map .int),2),some (.int (a:Int),2),y5,y6,y7]) (d:=.int (a:Int)) (lv':=0) rfl (by decide) (by rw [vBF,jGI];exact jGN (vAz h4 (vAz h3 hl))) rfl rfl),jXV,show (a:Int) + 1 = ((a + 1:Nat):Int) from rfl,e3)
  ·have he:a = ws.length:=by exact vCI h3 (vBy ha)
   subst he
   rw [if_neg ha,List.append_nil]
   exact ⟨y5,y6,y7,vV (by (wp_walk using Jh,(JU D.str ws (Z9 hl)),(by exact Int.not_lt.mpr (Int.le_refl _):¬ ((ws.length:Int) < ws.length))))⟩
theorem yd (ws:Tc) (w:Int) (hl:ws.length <= 2000) (hw:∀ w ∈ ws,w.length <= 1000) (hwb:w.natAbs <= 1000000000000000000000000000000000000) (hb:∀ x ∈ ws,(x.length:Int) <= w):J1 [.list (ws.map .str),.int w,.list ((tab ws w).map .int)] = some (.ok (.list ((nz (yX ws w)).map .int),2)):=by
 have hg:Xm 5 [.list (ws.map D.str),.int w,.list ((tab ws w).map D.int)] = [some (.list (ws.map .str),0),some (.int w,2),some (.list ((tab ws w).map .int),0),none,none,none,none,none]:=rfl
 obtain ⟨z5,z6,z7,hgo⟩:=qIR ws w (tab ws w) hl hw hwb (qq hb) ws.length 100000 0 [] none none none (Nat.sub_le ..) (vBh hl (by decide)) (vBz _) (by simp)
 unfold J1
 rw [Jm (by rfl),hg]
 unfold XI
 (wp_walk using YJ,ZI,YI)
 unfold YH
 rw [show Zp Jh QA 100000 [some (.list (ws.map .str),0),some (.int w,2),some (.list ((tab ws w).map .int),0),some (.list [],2),some (.int 0,2),none,none,none] = _ from hgo]
 (wp_walk using YG)
 rfl
def tel (ws:Tc) (w:Int):Nat -> D
 | 0=>.int w
 | 1=>dW ws
 | 2=>.list ((tab ws w).map .int)
 | 3=>.list ((nz (yX ws w)).map .int)
 | _=>.list ((kd ws (nz (yX ws w))).map .str)
section
variable {a:Addr}
theorem Okr.fit (ok:Okr ws w):∀ x ∈ ws,(x.length:Int) <= w:=fun x hx=>(ok.wd x hx).2
theorem Okr.l2 (ok:Okr ws w):ws.length <= 2000:=vAz ok.len (by decide)
theorem Okr.w3 (ok:Okr ws w):∀ x ∈ ws,x.length <= 1000:=fun x hx=>vAz (ok.wd x hx).1 (by decide)
theorem Okr.wa (ok:Okr ws w):w.natAbs <= 1000000000000000000000000000000000000:=nL (Int.le_trans (Int.le_of_eq (Int.natAbs_of_nonneg (Int.le_trans (by decide) ok.w1))) (Int.le_trans ok.w2 (by decide)))
theorem Okr.tl (ok:Okr ws w):(tab ws w).length <= 1000:=by rw [(qq ok.fit).1];exact vBh ok.len (by decide)
theorem Okr.bl (ok:Okr ws w):(nz (yX ws w)).length <= 120:=by rw [jGI];exact vAz (jQJ ok.fit).1 ok.len
theorem Okr.ll (ok:Okr ws w):(kd ws (nz (yX ws w))).length <= 120:=vAz (jYJ (jQJ ok.fit)) ok.len
theorem qm (hp:Wz.pg a = some (pgO ws w ps)) (ok:Okr ws w):Qc Wz [.ob a] = some (.ok (dW ws,2)):=by
 have hg:Xm 0 [.ob a] = [some (.ob a,2)]:=rfl
 unfold Qc
 rw [Jm (by rfl),hg]
 unfold xx
 (wp_walk using ku,Jx hp,pgO,jDO (ws.map D.str) (by rw [vBF];exact Z8 ok.len))
 rfl
theorem jAF (hp:Wz.pg a = some (pgO ws w ps)):YD Wz [.ob a] = some (.ok (.int w,0)):=by
 have hg:Xm 0 [.ob a] = [some (.ob a,2)]:=rfl
 unfold YD
 rw [Jm (by rfl),hg]
 unfold xy
 (wp_walk using kv,ZK hp,pgO)
 rfl
theorem jAH (hp:Wz.pg a = some (pgO ws w ps)) (ok:Okr ws w):XW Wz [.ob a] = some (.ok (tel ws w 2,2)):=by
 have hg:Xm 0 [.ob a] = [some (.ob a,2)]:=rfl
 unfold XW
 rw [Jm (by rfl),hg]
 unfold xz
 (wp_walk using kw,Jx hp,ZK hp,pgO,jCU ws w ok.w1 ok.l2 ok.w3 ok.wa ok.fit)
 rfl
theorem ko (hp:Wz.pg a = some (pgO ws w ps)) (ok:Okr ws w):QG Wz [.ob a] = some (.ok (tel ws w 3,2)):=by
 have hg:Xm 0 [.ob a] = [some (.ob a,2)]:=rfl
 unfold QG
 rw [Jm (by rfl),hg]
 unfold vG
 (wp_walk using je,Jx hp,ZK hp,pgO,jFW ws w ok.w1 ok.l2 ok.w3 ok.wa ok.fit)
 rfl
theorem jAU (hp:Wz.pg a = some (pgO ws w ps)) (ok:Okr ws w):XX Wz [.ob a] = some (.ok (tel ws w 4,2)):=by
 have hg:Xm 0 [.ob a] = [some (.ob a,2)]:=rfl
 have e:=jPB ws (nz (yX ws w)) ok.l2 ok.w3 (vAz ok.bl (by decide))
 rw [if_pos (jQJ ok.fit).good] at e
 unfold XX
 rw [Jm (by rfl),hg]
 unfold yJ
 (wp_walk using ky,Jx hp,ZP hp,ko hp ok,pgO,tel,e)
 rfl
theorem jOZ (hp:Wz.pg a = some (pgO ws w ps)) (ok:Okr ws w) (k:Nat) (hk:k < 5):∃ lv,XZ Wz [.ob a,.int k] = some (.ok (tel ws w k,lv)):=by
 have hg:Xm 0 [.ob a,.int k] = [some (.ob a,2),some (.int k,2)]:=rfl
 unfold XZ
 rw [Jm (by rfl),hg]
 unfold jB
 have:k = 0 \/ k = 1 \/ k = 2 \/ k = 3 \/ k = 4:=(by decide:∀ k:Nat,k < 5 -> k = 0 \/ k = 1 \/ k = 2 \/ k = 3 \/ k = 4) k hk
 rcases this with rfl | rfl | rfl | rfl | rfl
 ·exact ⟨0,by (wp_walk using J2,show (((0:Nat):Int) == 0) = true from rfl,ZP hp,jAF hp);rfl⟩
 ·exact ⟨2,by (wp_walk using J2,QI,show (((1:Nat):Int) == 0) = false from rfl,show (((1:Nat):Int) == 1) = true from rfl,ZP hp,qm hp ok);rfl⟩
 ·exact ⟨2,by (wp_walk using J2,QI,Qi,show (((2:Nat):Int) == 0) = false from rfl,show (((2:Nat):Int) == 1) = false from rfl,show (((2:Nat):Int) == 2) = true from rfl,ZP hp,jAH hp ok);rfl⟩
 ·exact ⟨2,by (wp_walk using J2,QI,Qi,Xc,show (((3:Nat):Int) == 0) = false from rfl,show (((3:Nat):Int) == 1) = false from rfl,show (((3:Nat):Int) == 2) = false from rfl,show (((3:Nat):Int) == 3) = true from rfl,ZP hp,ko hp ok);rfl⟩
 ·exact ⟨2,by (wp_walk using J2,QI,Qi,Xc,Yr,show (((4:Nat):Int) == 0) = false from rfl,show (((4:Nat):Int) == 1) = false from rfl,show (((4:Nat):Int) == 2) = false from rfl,show (((4:Nat):Int) == 3) = false from rfl,ZP hp,jAU hp ok);rfl⟩
theorem jWB (hp:Wz.pg a = some (pgO ws w ps)) (ok:Okr ws w) (hk:k < 5) {xs:List D} (hl:xs.length = 5) (h1:1 <= lv) :
  Qn Wz [some (.ob a,la),some (.int way,lw),some (.list xs,lv),x3,some (.int k,2)] = some (.next [some (.ob a,0),some (.int way,lw),some (.list (xs.set k (tel ws w k)),1),x3,some (.int k,0)]):=by
 obtain ⟨l,e⟩:=jOZ hp ok k hk
 have e1:Xh Wz [some (.ob a,la),some (.int way,lw),some (.list xs,lv),x3,some (.int k,2)] = some (.ok (tel ws w k,l)):=by
  (wp_walk using Xh,e)
 have e2:jEX [0,4] 2 (Xh Wz) (fun Z=>JH 4 Z) [some (.ob a,la),some (.int way,lw),some (.list xs,lv),x3,some (.int k,2)] = some (.next [some (.ob a,0),some (.int way,lw),some (.list (xs.set k (tel ws w k)),1),x3,some (.int k,0)]):=by
  unfold jEX
  rw [qAO (xs:=xs) (lv:=lv) rfl,if_pos ⟨h1,by rw [hl];decide⟩,e1,vz]
  show Yj (some (R.ok (D.int (k:Int),0))) _ _ = _
  rw [vz]
  show (if (false = false /\ 0 <= (k:Int) /\ (k:Int) < (xs.length:Int)) then _ else _) = _
  rw [if_pos ⟨rfl,by exact vBi _,by exact vCb.mpr (vCP hk (vBs hl.symm))⟩]
  rfl
 unfold Qn
 rw [jl,e2];rfl
theorem jWC (hp:Wz.pg a = some (pgO ws w ps)) (ok:Okr ws w):∀ (ks:List Nat) (xs:List D) (lv la:Nat) (v:Option (D × Nat)),(∀ k ∈ ks,k < 5) -> xs.length = 5 -> 1 <= lv -> 
  ∃ lv' la' v',Ym (Qn Wz) 4 (ks.map fun (k:Nat)=>D.int (k:Int)) [some (.ob a,la),some (.int way,lw),some (.list xs,lv),x3,v] = some (.next [some (.ob a,la'),some (.int way,lw),some (.list (ks.foldl (fun xs k=>xs.set k (tel ws w k)) xs),lv'),x3,v']):=by
 intro ks
 induction ks with
 | nil =>
  intro xs lv la v _ _ _
  exact ⟨lv,la,v,rfl⟩
 | cons k ks ih =>
  intro xs lv la v hk hl h1
  obtain ⟨lv',la',v',e⟩:=ih (xs.set k (tel ws w k)) 1 0 (some (.int k,0)) (fun j hj=>hk j (vBC _ hj)) (by rw [List.length_set];exact hl) (vBI _)
  refine ⟨lv',la',v',?_⟩
  rw [List.map_cons,jGK]
  have q:([some (.ob a,la),some (.int way,lw),some (.list xs,lv),x3,v]:G).set 4 (some (.int k,JZ (.int k))) = [some (.ob a,la),some (.int way,lw),some (.list xs,lv),x3,some (.int k,2)]:=rfl
  rw [q,jWB hp ok (hk k (vBA ..)) hl h1]
  exact e
abbrev qLR (ws:Tc) (w:Int):List D:=[tel ws w 0,tel ws w 1,tel ws w 2,tel ws w 3,tel ws w 4]
noncomputable abbrev qOC (ks:List Nat):D:=.list (ks.map fun (k:Nat)=>D.int (k:Int))
theorem qBQ (m:Int):∃ ks:List Nat,JL [.list [.list [.int 0,.int 1,.int 2,.int 3,.int 4],.list [.int 4,.int 3,.int 2,.int 1,.int 0],.list [.int 3,.int 1,.int 4,.int 0,.int 2],.list [.int 2,.int 4,.int 0,.int 3,.int 1],.list [.int 1,.int 0,.int 4,.int 2,.int 3]],.int (m.fmod 5)] = some (.ok (qOC ks,0)) /\ (∀ k ∈ ks,k < 5) /\ ks.length <= 5 /\ ∀ (ws:Tc) (w:Int),ks.foldl (fun xs k=>xs.set k (tel ws w k)) [.none,.none,.none,.none,.none] = qLR ws w:=by
 rcases qKA m with h | h | h | h | h <;> rw [h]
 ·exact ⟨[0,1,2,3,4],rfl,by decide,by decide,fun _ _=>rfl⟩
 ·exact ⟨[4,3,2,1,0],rfl,by decide,by decide,fun _ _=>rfl⟩
 ·exact ⟨[3,1,4,0,2],rfl,by decide,by decide,fun _ _=>rfl⟩
 ·exact ⟨[2,4,0,3,1],rfl,by decide,by decide,fun _ _=>rfl⟩
 ·exact ⟨[1,0,4,2,3],rfl,by decide,by decide,fun _ _=>rfl⟩
theorem jQN (hp:Wz.pg a = some (pgO ws w ps)) (ok:Okr ws w) (way:Int):∃ lv,Xb Wz [.ob a,.int way] = some (.ok (.list (qLR ws w),lv)):=by
 have hg:Xm 3 [.ob a,.int way] = [some (.ob a,2),some (.int way,2),none,none,none]:=rfl
 obtain ⟨ks,ho,hk,hkl,hf⟩:=qBQ way
 have e1:Yu Wz [some (.ob a,2),some (.int way,2),none,none,none] = some (.next [some (.ob a,2),some (.int way,2),some (.list [.none,.none,.none,.none,.none],2),none,none]):=rfl
 have e2:Yt Wz [some (.ob a,2),some (.int way,2),some (.list [.none,.none,.none,.none,.none],2),none,none] = some (.next [some (.ob a,2),some (.int way,2),some (.list [.none,.none,.none,.none,.none],2),some (.list [.list [.int 0,.int 1,.int 2,.int 3,.int 4],.list [.int 4,.int 3,.int 2,.int 1,.int 0],.list [.int 3,.int 1,.int 4,.int 0,.int 2],.list [.int 2,.int 4,.int 0,.int 3,.int 1],.list [.int 1,.int 0,.int 4,.int 2,.int 3]],1),none]):=rfl
 obtain ⟨lv,la,v,e⟩:=jWC hp ok (way:=way) (lw:=0) (x3:=some (.list [.list [.int 0,.int 1,.int 2,.int 3,.int 4],.list [.int 4,.int 3,.int 2,.int 1,.int 0],.list [.int 3,.int 1,.int 4,.int 0,.int 2],.list [.int 2,.int 4,.int 0,.int 3,.int 1],.list [.int 1,.int 0,.int 4,.int 2,.int 3]],0)) ks [.none,.none,.none,.none,.none] 2 2 none hk rfl (by decide)
 rw [hf] at e
 refine ⟨lv,?_⟩
 unfold Xb
 rw [Jm (by rfl),hg]
 unfold jD
 rw [jl,e1,Za,jl,e2,Za,jl]
 unfold Ys
 rw [jA (xs:=ks.map fun (k:Nat)=>D.int (k:Int)) (by (wp_walk using ho,jIV _ _ (show (ks.map fun (k:Nat)=>D.int (k:Int)).length <= lim by rw [vBF];exact vAz hkl (by decide))))]
 show jNM (v9 (Ym (Qn Wz) 4 _ [some (.ob a,2),some (.int way,0),some (.list [.none,.none,.none,.none,.none],2),some (.list [.list [.int 0,.int 1,.int 2,.int 3,.int 4],.list [.int 4,.int 3,.int 2,.int 1,.int 0],.list [.int 3,.int 1,.int 4,.int 0,.int 2],.list [.int 2,.int 4,.int 0,.int 3,.int 1],.list [.int 1,.int 0,.int 4,.int 2,.int 3]],0),none]) _) = _
 rw [e,Zo]
 rfl
def Leafy (d:D):Prop:=(∃ ss:List Int,d = .list (ss.map .int)) \/ ∃ ts:Tc,d = .list (ts.map .str)
noncomputable def hsD (ds:List D):List D:=ds.map fun d=>.tup [d,d]
theorem qCL (ds:List D) (d:D):hsD ds ++ [.tup [d,d]] = hsD (ds ++ [d]):=by unfold hsD;rw [vBv];rfl
theorem jTZ:∀ ws:List Int,D.plains (ws.map .int) = true:=by
 intro ws
 induction ws with
 | nil =>
  exact rfl
 | cons _ ws ih =>
  exact ih
theorem Leafy.plain (h:Leafy d):D.plain (.tup [d,d]) = true:=by
 have:d.plain = true:=by
  rcases h with ⟨ss,rfl⟩ | ⟨ts,rfl⟩
  ·exact jTZ ss
  ·exact vd ts
 show (d.plain && (d.plain && true)) = true
 rw [this];rfl
theorem jJB {l:Nat} {f:Sg -> Tg} (hj:Z[j]? = some (some (.ob H,l))) (hh:Wz.hd H = some (hsD hs)) (hf:f Wz Z = some (.ok (.tup [d,d],lv))) (hd:Leafy d) (hl:hs.length + 1 <= lim) :
  jPL occ j f Wz Z = some (.next (JX occ Z) (Xr Wz H (hsD (hs ++ [d])))):=by
 unfold jPL
 rw [qKZ hj,hh,Option.bind_some,hf,<- qCL]
 exact if_pos (by rw [hd.plain,vBk (by unfold hsD;rw [vBF];exact hl:(hsD hs).length + 1 <= lim)];rfl)
theorem jCR (Wz:Sg) (a:Addr) (p q:List D):Xr (Xr Wz a p) a q = Xr Wz a q:=by
 unfold Xr
 congr 1
 funext b
 by_cases h:b = a
 ·rw [if_pos h,if_pos h]
 ·rw [if_neg h,if_neg h];exact if_neg h
theorem jWG (ws:Tc) (w:Int):Leafy (tel ws w 1) /\ Leafy (tel ws w 2) /\ Leafy (tel ws w 3) /\ Leafy (tel ws w 4):=⟨.inr ⟨_,rfl⟩,.inl ⟨_,rfl⟩,.inl ⟨_,rfl⟩,.inr ⟨_,rfl⟩⟩
theorem t5 (x0 x1 x2 x3 x4:D):JL [.list [x0,x1,x2,x3,x4],.int 0] = some (.ok (x0,0)) /\ JL [.list [x0,x1,x2,x3,x4],.int 1] = some (.ok (x1,0)) /\ JL [.list [x0,x1,x2,x3,x4],.int 2] = some (.ok (x2,0)) /\ JL [.list [x0,x1,x2,x3,x4],.int 3] = some (.ok (x3,0)) /\ JL [.list [x0,x1,x2,x3,x4],.int 4] = some (.ok (x4,0)):=⟨rfl,rfl,rfl,rfl,rfl⟩
end
section
variable {a:Addr}
abbrev dT (ws:Tc) (w:Int):D:=.list ((tab ws w).map .int)
abbrev dS (ws:Tc) (w:Int):D:=.list ((nz (yX ws w)).map .int)
abbrev dL (ws:Tc) (w:Int):D:=.list ((kd ws (nz (yX ws w))).map .str)
abbrev dE (ws:Tc) (w:Int):D:=.list ((ql (nz (yX ws w)) ws.length).map .int)
abbrev dA (ws:Tc) (w:Int):D:=.list [.int w,dW ws,dT ws w,dS ws w,dL ws w]
theorem jJW {f:Tj} {xs:List D} (hd:d = .list xs) (hl:xs.length <= lim) (hf:f = some (.ok (d,0))):JR (JR f fun x=>JR (JR (JR (JR f fun y=>JR (some (.ok [])) fun z=>some (.ok (y.1 :: z))) jAT) fun y=>JR (some (.ok [])) fun z=>some (.ok (y.1 :: z))) fun y=>some (.ok (x.1 :: y))) yW = some (.ok (.tup [d,d],0)):=by
 subst hd
 subst hf
 (wp_walk using jDO xs hl)
 rfl
theorem qBC (ok:Okr ws w) (hh:Wz.hd H = some (hsD hs)) (hl:hs.length + 3 <= lim) :
  Zl Wz [dW ws,.int w,dA ws w,.ob H] = some (.bool true,Xr Wz H (hsD (hs ++ [dT ws w] ++ [dS ws w] ++ [dL ws w]))):=by
 refine jDY rfl ?_
 have hsl:(nz (yX ws w)).length <= lim:=vAz ok.bl (by decide)
 have hsb:(nz (yX ws w)).length <= big:=vAz ok.bl (by decide)
 have htl:(tab ws w).length <= lim:=vAz ok.tl (by decide)
 have hll:(kd ws (nz (yX ws w))).length <= lim:=vAz ok.ll (by decide)
 have hwl:ws.length <= lim:=Z8 ok.len
 have hwb:ws.length <= big:=Xk ok.len
 have hel:(ql (nz (yX ws w)) ws.length).length <= big:=by rw [zN];have:=ok.bl;exact vAz (show _ <= 121 by exact vAz (vCf (vAz (Nat.sub_le ..) this) _) (by decide)) (by decide)
 have i2:JL [dA ws w,.int 2] = some (.ok (dT ws w,0)):=rfl
 have i3:JL [dA ws w,.int 3] = some (.ok (dS ws w,0)):=rfl
 have i4:JL [dA ws w,.int 4] = some (.ok (dL ws w,0)):=rfl
 let Z0z:G:=[some (dW ws,0),some (.int w,2),some (dA ws w,0),some (.ob H,2),none,none]
 let Z1y:G:=[some (dW ws,0),some (.int w,2),some (dA ws w,0),some (.ob H,2),some (dS ws w,0),none]
 let Z2z:G:=[some (dW ws,0),some (.int w,2),some (dA ws w,0),some (.ob H,2),some (dS ws w,0),some (dE ws w,2)]
 show qK Wz Z0z = _
 have q1:YW Wz Z0z = some (.next Z0z Wz):=by
  unfold YW Z4
  (wp_walk using Z0z,i2,jEW ws w _ ok.l2 ok.w3 ok.wa (qq ok.fit))
  rfl
 have q2:YV Wz Z0z = some (.next Z1y Wz):=by
  unfold YV Z3
  (wp_walk using Z0z,i3)
  rfl
 have q3:YU Wz Z1y = some (.next Z1y Wz):=by
  unfold YU Z2
  (wp_walk using Z1y,i2,jKN _ hsl,yd ws w ok.l2 ok.w3 ok.wa ok.fit,qBY)
  rfl
 have a1:=jGY (Jf (nz (yX ws w)) (some 1) none) (ws.length:Int) (vAz (vBl (vAz (Zm (nz (yX ws w)) (some 1) none) ok.bl)) (by decide))
 have q4:YT Wz Z1y = some (.next Z2z Wz):=by
  unfold YT Z1
  (wp_walk using Z1y,xi _ _ _ hsl,JU _ _ hwb,jLN,a1)
  rfl
 have q5:YS Wz Z2z = some (.next Z2z (Xr Wz H (hsD (hs ++ [dT ws w])))):=by
  unfold YS
  rw [jJB (j:=3) (H:=H) (l:=2) (d:=dT ws w) rfl hh (jJW (xs:=(tab ws w).map .int) rfl (by rw [vBF];exact htl) (by (wp_walk using Z2z,i2))) (.inl ⟨_,rfl⟩) (lN [_,_] (.a (.v 0) (.n 1)) (.v 1) [(.a (.v 0) (.n 3),.v 1)] rT hl)]
  rfl
 have q6:YR (Xr Wz H (hsD (hs ++ [dT ws w]))) Z2z = some (.next Z2z (Xr Wz H (hsD (hs ++ [dT ws w] ++ [dS ws w])))):=by
  unfold YR
  rw [jJB (j:=3) (H:=H) (l:=2) (d:=dS ws w) rfl (xh ..) (jJW (xs:=(nz (yX ws w)).map .int) rfl (by rw [vBF];exact hsl) (by (wp_walk using Z2z))) (.inl ⟨_,rfl⟩) (by simp;exact lN [_,_] (.a (.a (.v 0) (.n 1)) (.n 1)) (.v 1) [(.a (.v 0) (.n 3),.v 1)] rT hl),jCR]
  rfl
 have q7:YQ (Xr Wz H (hsD (hs ++ [dT ws w] ++ [dS ws w]))) Z2z = some (.next Z2z (Xr Wz H (hsD (hs ++ [dT ws w] ++ [dS ws w] ++ [dL ws w])))):=by
  unfold YQ
  rw [jJB (j:=3) (H:=H) (l:=2) (d:=dL ws w) rfl (xh ..) (jJW (xs:=(kd ws (nz (yX ws w))).map .str) rfl (by rw [vBF];exact hll) (by (wp_walk using Z2z,i4))) (.inr ⟨_,rfl⟩) (by simp;exact lN [_,_] (.a (.a (.v 0) (.n 2)) (.n 1)) (.v 1) [(.a (.v 0) (.n 3),.v 1)] rT hl),jCR]
  rfl
 generalize Xr Wz H (hsD (hs ++ [dT ws w] ++ [dS ws w] ++ [dL ws w])) = W' at q7 ⊢
 have q8:YO W' Z2z = some (.ret (.bool true) W'):=by
  have hc:=Yh (fE:=XT W') (cap:=[0,4,5]) (Z:=Z2z) (fun (i:Nat)=>D.int (i:Int)) (fun k=>.str (qk [32] (Jf ws (some ((nz (yX ws w)).getD k 0)) (some ((ql (nz (yX ws w)) ws.length).getD k 0))))) (List.range (nz (yX ws w)).length) (by
   intro i hi
   have hi:=vBV.mp hi
   refine ⟨2,?_⟩
   show XT W' [some (.int (i:Int),2),some (dW ws,0),some (dS ws w,0),some (dE ws w,0)] = _
   (wp_walk using XT,(QE D.int (nz (yX ws w)) i _ (getD_some 0 hi) hsb),(QE D.int (ql (nz (yX ws w)) ws.length) i _ (getD_some 0 (by rw [zN];exact vCP hi (Nat.le_add_of_sub_le (Nat.le_of_lt_succ (vCd _))))) hel),Yp _ _ _ hwl,jGP _ _ (jCV _ _ ok.l2 ok.w3)))
  have hm:(List.range (nz (yX ws w)).length).map (fun k=>D.str (qk [32] (Jf ws (some ((nz (yX ws w)).getD k 0)) (some ((ql (nz (yX ws w)) ws.length).getD k 0))))) = (kd ws (nz (yX ws w))).map .str:=by
   unfold kd;rw [vCJ];rfl
  rw [hm] at hc
  unfold YO Z0
  (wp_walk using show Z2z = [some (dW ws,0),some (.int w,2),some (dA ws w,0),some (.ob H,2),some (dS ws w,0),some (dE ws w,2)] from rfl,i4,JU _ _ hsb,jR _ hsl)
  rw [show jN (XT W') (fun _=>some (.ok true)) [0,4,5] [some (dW ws,0),some (.int w,2),some (dA ws w,0),some (.ob H,2),some (dS ws w,0),some (dE ws w,2)] _ = _ from hc]
  (wp_walk using jGB _ hll)
  rfl
 have z:XQ W' Z2z = some (.ret (.bool true) W'):=by unfold XQ;rw [q8];rfl
 exact JP (f:=Zs) q1 (JP (f:=Zt) q2 (JP (f:=Zu) q3 (JP (f:=Zv) q4 (JP (f:=Zw) q5 (JP (f:=Zx) q6 (JP (f:=XQ) q7 z))))))
theorem jVX {xs:List D} (hp:Wz.hd H = some xs):Xr Wz H xs = Wz:=by
 unfold Xr
 cases Wz with
 | mk pg hd =>
  congr 1
  funext b
  by_cases h:b = H
  ·rw [if_pos h,h];exact hp.symm
  ·rw [if_neg h]
abbrev sG (a H:Addr) (ws:Tc) (w:Int) (full:Bool) (way:Int) (la l5:Nat) (x:Option (D × Nat)):G:=[some (.ob a,la),some (dW ws,0),some (.int w,2),some (.bool full,2),some (.ob H,2),some (.int way,l5),x]
theorem st4 {l5 l6:Nat} {x2 x3 x4:D} (ok:Okr ws w):X7 Wz (sG a H ws w full way la l5 (some (.list [.int w,dW ws,x2,x3,x4],l6))) = some (.next (sG a H ws w full way la l5 (some (.list [.int w,dW ws,x2,x3,x4],l6))) Wz):=by
 obtain ⟨i0,i1,-⟩:=t5 (.int w) (dW ws) x2 x3 x4
 unfold X7 ZW
 (wp_walk using i0,i1,jHJ,jGB _ (Z8 ok.len))
 rfl
theorem st5 {l5 l6:Nat} {x2 x3 x4:D} (ok:Okr ws w) (hh:Wz.hd H = some (hsD hs)) (hl:hs.length + 1 <= lim) :
  X6 Wz (sG a H ws w full way la l5 (some (.list [.int w,dW ws,x2,x3,x4],l6))) = some (.next (sG a H ws w full way la l5 (some (.list [.int w,dW ws,x2,x3,x4],0))) (Xr Wz H (hsD (hs ++ [dW ws])))):=by
 obtain ⟨i0,i1,-⟩:=t5 (.int w) (dW ws) x2 x3 x4
 unfold X6
 rw [jJB (j:=4) (H:=H) (l:=2) (d:=dW ws) rfl hh (jJW (xs:=ws.map .str) rfl (by rw [vBF];exact Z8 ok.len) (by (wp_walk using i1))) (.inr ⟨_,rfl⟩) hl]
 rfl
theorem jWK (hp:Wz.pg a = some (pgO ws w ps)) (ok:Okr ws w) (hh:Wz.hd H = some (hsD hs)) (hl:hs.length + 4 <= lim) (full:Bool) (way:Int) :
  ∃ ds,(∀ d ∈ ds,Leafy d) /\ ds.length <= 4 /\ J9 Wz [.ob a,dW ws,.int w,.bool full,.ob H,.int way] = some (.bool true,Xr Wz H (hsD (hs ++ ds))):=by
 have q1:∃ f:Bool,Q3 Wz (sG a H ws w full way 2 2 none) = some (.next (sG a H ws w f way 2 2 none) Wz):=by
  cases full with
  | true=>exact ⟨true,by unfold Q3 X5;(wp_walk using (JU D.str ws (Xk ok.len)));rfl⟩
  | false=>exact ⟨decide ((ws.length:Int) < 21),by unfold Q3 X5;(wp_walk using (JU D.str ws (Xk ok.len)));rfl⟩
 obtain ⟨f,q1⟩:=q1
 have q2:ZX Wz (sG a H ws w f way 2 2 none) = some (.next (sG a H ws w f way 2 2 (some (.list [.int w,.none,.none,.none,.none],2))) Wz):=rfl
 have fin:∀ {r:OT},jq Wz (sG a H ws w full way 2 2 none) = some r -> ∀ {d:D} {W':Sg},r = .ret d W' -> J9 Wz [.ob a,dW ws,.int w,.bool full,.ob H,.int way] = some (d,W'):=by
  rintro r h d W' rfl
  exact jDY rfl h
 cases f with
 | true =>
  obtain ⟨lv,e⟩:=jQN hp ok way
  have q3:∃ la l5,Jz Wz (sG a H ws w true way 2 2 (some (.list [.int w,.none,.none,.none,.none],2))) = some (.next (sG a H ws w true way la l5 (some (dA ws w,lv))) Wz):=by
   have hv:∃ la l5,jGG [0,5] 6 (.list (qLR ws w),lv) (sG a H ws w true way 2 2 (some (.list [.int w,.none,.none,.none,.none],2))) = sG a H ws w true way la l5 (some (dA ws w,lv)):=by
    unfold jGG
    rw [if_neg (by show ¬ (false = true);decide)]
    by_cases h2:2 <= lv
    ·exact ⟨2,2,by rw [if_pos h2];rfl⟩
    ·exact ⟨0,0,by rw [if_neg h2];rfl⟩
   obtain ⟨la,l5,hv⟩:=hv
   refine ⟨la,l5,?_⟩
   unfold Jz Q1
   (wp_walk using e,hv)
   rfl
  obtain ⟨la,l5,q3⟩:=q3
  refine ⟨[dW ws,dT ws w,dS ws w,dL ws w],?_,by simp,?_⟩
  ·obtain ⟨h1,h2,h3,h4⟩:=jWG ws w
   intro d hd
   simp only [vCu,vCe,or_false] at hd
   rcases hd with rfl | rfl | rfl | rfl
   ·exact h1
   ·exact h2
   ·exact h3
   ·exact h4
  have x2:X1 (Xr Wz H (hsD (hs ++ [dW ws]))) (JX [3] (sG a H ws w true way la l5 (some (dA ws w,0)))) = some (.bool true,Xr Wz H (hsD (hs ++ [dW ws] ++ [dT ws w] ++ [dS ws w] ++ [dL ws w])),JX [1,2,6,4] (JX [3] (sG a H ws w true way la l5 (some (dA ws w,0))))):=by
   show Qd _ _ _ (some (.ok [dW ws,.int w,dA ws w,.ob H])) = _
   unfold Qd
   dsimp only
   rw [qBC ok (xh ..) (by simp;exact lN [_,_] (.a (.a (.v 0) (.n 1)) (.n 3)) (.v 1) [(.a (.v 0) (.n 4),.v 1)] rT hl),jCR];rfl
  have q6:Q2 (Xr Wz H (hsD (hs ++ [dW ws]))) (sG a H ws w true way la l5 (some (dA ws w,0))) = some (.ret (.bool true) (Xr Wz H (hsD (hs ++ [dW ws] ++ [dT ws w] ++ [dS ws w] ++ [dL ws w])))):=by
   unfold Q2 ZO
   show (Option.map _ (X1 _ (JX [3] (sG a H ws w true way la l5 (some (dA ws w,0)))))) = _
   rw [x2];rfl
  have z:Jy (Xr Wz H (hsD (hs ++ [dW ws]))) (sG a H ws w true way la l5 (some (dA ws w,0))) = some (.ret (.bool true) (Xr Wz H (hsD (hs ++ [dW ws] ++ [dT ws w] ++ [dS ws w] ++ [dL ws w])))):=by unfold Jy;rw [q6];rfl
  rw [(by simp:hs ++ [dW ws,dT ws w,dS ws w,dL ws w] = hs ++ [dW ws] ++ [dT ws w] ++ [dS ws w] ++ [dL ws w])]
  exact fin (JP (f:=Qx) q1 (JP (f:=QB) q2 (JP (f:=X2) q3 (JP (f:=X3) (st4 ok) (JP (f:=Jy) (st5 ok hh (vAz (Nat.lt_add_of_pos_right (by decide)) hl)) z))))) rfl
 | false =>
  cases hw:(way.fmod 3 == 1) with
  | false =>
   refine ⟨[],fun _ h=>(nomatch h),by decide,?_⟩
   rw [List.append_nil,jVX hh]
   have q3:Jz Wz (sG a H ws w false way 2 2 (some (.list [.int w,.none,.none,.none,.none],2))) = some (.ret (.bool true) Wz):=by
    unfold Jz Q1
    (wp_walk using hw)
    rfl
   have z:QB Wz (sG a H ws w false way 2 2 (some (.list [.int w,.none,.none,.none,.none],2))) = some (.ret (.bool true) Wz):=by unfold QB;rw [q3];rfl
   exact fin (JP (f:=Qx) q1 (JP (f:=QB) q2 z)) rfl
  | true =>
   refine ⟨[dW ws],fun d hd=>by obtain rfl:=vBH.mp hd;exact .inr ⟨_,rfl⟩,by simp,?_⟩
   have n1:jEX [] 6 (Q5 Wz) (qi Wz) (sG a H ws w false way 2 2 (some (.list [.int w,.none,.none,.none,.none],2))) = some (.next (sG a H ws w false way 2 2 (some (.list [.int w,dW ws,.none,.none,.none],1)))):=by
    have e1:Q5 Wz (sG a H ws w false way 2 2 (some (.list [.int w,.none,.none,.none,.none],2))) = some (.ok (dW ws,2)):=by unfold Q5;rw [ZP hp];exact qm hp ok
    unfold jEX
    show (if 1 <= 2 /\ 5 <= lim then Yj (Q5 Wz _) _ _ else none) = _
    rw [if_pos (by decide),e1];rfl
   have n2:jEX [] 6 (Q4 Wz) (qh Wz) (sG a H ws w false way 2 2 (some (.list [.int w,dW ws,.none,.none,.none],1))) = some (.next (sG a H ws w false way 2 2 (some (.list [.int w,dW ws,.none,.none,.none],1)))):=by
    have e1:Q4 Wz (sG a H ws w false way 2 2 (some (.list [.int w,dW ws,.none,.none,.none],1))) = some (.ok (.int w,0)):=by unfold Q4;rw [ZP hp];exact jAF hp
    unfold jEX
    show (if 1 <= 1 /\ 5 <= lim then Yj (Q4 Wz _) _ _ else none) = _
    rw [if_pos (by decide),e1];rfl
   have q3:Jz Wz (sG a H ws w false way 2 2 (some (.list [.int w,.none,.none,.none,.none],2))) = some (.next (sG a H ws w false way 2 2 (some (.list [.int w,dW ws,.none,.none,.none],1))) Wz):=by
    unfold Jz Q1
    (wp_walk using hw,n1,n2)
    rfl
   exact fin (JP (f:=Qx) q1 (JP (f:=QB) q2 (JP (f:=X2) q3 (JP (f:=X3) (st4 ok) (JP (f:=Jy) (st5 ok hh (vAz (Nat.lt_add_of_pos_right (by decide)) hl)) (by unfold Jy;rw [(rfl:Q2 (Xr Wz H (hsD (hs ++ [dW ws]))) (sG a H ws w false way 2 2 (some (.list [.int w,dW ws,.none,.none,.none],0))) = some (.ret (.bool true) (Xr Wz H (hsD (hs ++ [dW ws])))))];rfl:Jy (Xr Wz H (hsD (hs ++ [dW ws]))) (sG a H ws w false way 2 2 (some (.list [.int w,dW ws,.none,.none,.none],0))) = some (.ret (.bool true) (Xr Wz H (hsD (hs ++ [dW ws])))))))))) rfl
end
abbrev lG (ns:List Int) (w0:Int) (a H:Addr) (n:Nw) (f:Bool) (l0 l1 l2 l3 l4 l5 l6:Nat) (x7 x8 x9 x10 x11 x12:Option (D × Nat)):G:=[some (.list (ns.map .int),l0),some (.int w0,l1),some (.ob a,l2),some (.int 1,l3),some (jVK n,l4),some (.bool f,l5),some (.ob H,l6),x7,x8,x9,x10,x11,x12]
structure Sp (a H:Addr) (n:Nw) (hs:List D) (Wz:Sg):Prop where
 pg:Wz.pg a = some (pgN n)
 hd:Wz.hd H = some (hsD hs)
 ok:Ok n
 lf:∀ d ∈ hs,Leafy d
def Sh (ns:List Int) (w0:Int) (a H:Addr) (n:Nw) (f:Bool) (x7 x12:Option (D × Nat)) (Z:G):Prop :=
 ∃ l0 l1 l2 l3 l4 l5 l6 x8 x9 x10 x11,Z = (lG ns w0 a H n f l0 l1 l2 l3 l4 l5 l6 x7 x8 x9 x10 x11 x12)
section
variable {a:Addr} {n:Nw} {f:Bool} {c:Int}
theorem qJI {d:Dd} (S:Sp a H n hs Wz) (h:Sh ns w0 a H n f (some (.int c,l7)) x12 Z) (hd:okD d) (hl:n.2.2.length + 1 <= lim) :
  ∃ Z',jHL Wz (Z.set 10 (some (dD d,JZ (dD d)))) = some (.next Z' (XH Wz a (pgN (nxt n d)))) /\ Sh ns w0 a H (nxt n d) f (some (.int c,l7)) x12 Z' /\ Sp a H (nxt n d) hs (XH Wz a (pgN (nxt n d))):=by
 obtain ⟨l0,l1,l2,l3,l4,l5,l6,x8,x9,x10,x11,rfl⟩:=h
 have q8:jHZ Wz (lG ns w0 a H n f l0 l1 l2 l3 l4 l5 l6 (some (.int c,l7)) x8 x9 (some (dD d,JZ (dD d))) x11 x12) =
   some (.next (lG ns w0 a H (nxt n d) f l0 l1 0 l3 0 l5 l6 (some (.int c,l7)) x8 x9 (some (dD d,0)) x11 x12) (XH Wz a (pgN (nxt n d)))):=by
  unfold jHZ jNX
  (wp_walk using jKD)
  unfold Qd
  dsimp only
  rw [qFF S.pg S.ok.cur hd hl];rfl
 refine ⟨_,JP (f:=jOB) q8 (JP (f:=jOC) ((fun W'=>rfl:∀ W':Sg,jOS W' (lG ns w0 a H (nxt n d) f l0 l1 0 l3 0 l5 l6 (some (.int c,l7)) x8 x9 (some (dD d,0)) x11 x12) = some (.next (lG ns w0 a H (nxt n d) f l0 l1 0 l3 0 l5 l6 (some (.int c,l7)) x8 x9 (some (dD d,0)) x11 x12) W')) _) rfl),⟨_,_,_,_,_,_,_,_,_,_,_,rfl⟩,⟨jd ..,S.hd,qJK S.ok hd,S.lf⟩⟩
theorem qFQ:∀ (ds:List Dd) {n:Nw} {Wz:Sg} {Z:G},Sp a H n hs Wz -> Sh ns w0 a H n f (some (.int c,l7)) x12 Z -> (∀ d ∈ ds,okD d) -> n.2.2.length + ds.length <= lim -> 
  ∃ n' W' Z',jDL jHL 10 (ds.map dD) Wz Z = some (.next Z' W') /\ Sh ns w0 a H n' f (some (.int c,l7)) x12 Z' /\ Sp a H n' hs W' /\ n'.2.2.length <= n.2.2.length + ds.length:=by
 intro ds
 induction ds with
 | nil =>
  intro n Wz Z S h _ _
  exact ⟨n,Wz,Z,rfl,h,S,vBI _⟩
 | cons d ds ih =>
  intro n Wz Z S h hd hl
  rw [List.length_cons] at hl
  obtain ⟨Z1z,e1,h1,S1⟩:=qJI S h (hd d (vBA ..)) (lN [_,_,_] (.a (.v 0) (.n 1)) (.v 1) [(.a (.v 0) (.a (.v 2) (.n 1)),.v 1)] rT hl)
  obtain ⟨n',W',Z',e2,h2,S2,b2⟩:=ih S1 h1 (fun x hx=>hd x (vBC _ hx)) (lN [_,_,_,_] (.a (.v 0) (.v 1)) (.v 2) [(.a (.v 3) (.a (.v 1) (.n 1)),.v 2),(.v 0,.a (.v 3) (.n 1))] rT hl (jXW (n:=n) (d:=d)))
  refine ⟨n',W',Z',?_,h2,S2,by rw [List.length_cons];exact lN [_,_,_,_] (.v 0) (.a (.v 1) (.a (.v 2) (.n 1))) [(.v 3,.a (.v 1) (.n 1)),(.v 0,.a (.v 3) (.v 2))] rT (jXW (n:=n) (d:=d)) b2⟩
  rw [List.map_cons,vj,e1]
  exact e2
theorem qHB {d:Dd} (S:Sp a H n hs Wz) (h:Sh ns w0 a H n f (some (.int c,l7)) x12 Z) (hd:okD d) (hl:n.2.2.length + 3 <= lim) :
  ∃ n' W' Z',jHK Wz (Z.set 9 (some (dD d,JZ (dD d)))) = some (.next Z' W') /\ Sh ns w0 a H n' f (some (.int c,l7)) x12 Z' /\ Sp a H n' hs W' /\ n'.2.2.length <= n.2.2.length + 3:=by
 obtain ⟨l0,l1,l2,l3,l4,l5,l6,x8,x9,x10,x11,rfl⟩:=h
 obtain ⟨gs,lv,eg,hg,hgl⟩:=jLK (d:=d) (due n.1 n.2.1 n.2.2 d) hd
 have x3:jCK Wz (lG ns w0 a H n f l0 l1 l2 l3 l4 l5 l6 (some (.int c,l7)) x8 (some (dD d,JZ (dD d))) x10 x11 x12) =
   some (.list ((d :: gs).map dD),Wz,(lG ns w0 a H n f l0 l1 l2 l3 0 l5 l6 (some (.int c,l7)) x8 (some (dD d,0)) x10 x11 x12)):=by
  unfold jCK
  (wp_walk using t30,t31,t32,qES S.ok.cur hd,eg,show J3 [dD d] = some (.ok (.list [dD d],vg [dD d])) from rfl,(zh [dD d] (gs.map dD) (by rw [vBO,vBF];exact vAz (Nat.add_le_add_left hgl 1) (by decide))))
  rfl
 obtain ⟨n',W',Z',e,h1,S1,b1⟩:=qFQ (f:=f) (ns:=ns) (w0:=w0) (c:=c) (l7:=l7) (d :: gs) (Z:=(lG ns w0 a H n f l0 l1 l2 l3 0 l5 l6 (some (.int c,l7)) x8 (some (dD d,0)) x10 x11 x12)) S ⟨_,_,_,_,_,_,_,_,_,_,_,rfl⟩ (fun x hx=>(vCu.mp hx).elim (fun q=>q ▸ hd) (hg x)) (by rw [List.length_cons];exact lN [_,_,_] (.a (.v 0) (.a (.v 1) (.n 1))) (.v 2) [(.a (.v 0) (.n 3),.v 2),(.v 1,.n 2)] rT hl hgl)
 refine ⟨n',W',Z',?_,h1,S1,by rw [List.length_cons] at b1;exact lN [_,_,_] (.v 0) (.a (.v 1) (.n 3)) [(.v 2,.n 2),(.v 0,.a (.v 1) (.a (.v 2) (.n 1)))] rT hgl b1⟩
 refine JP (f:=jOA) (Z:=Z') (Wz:=W') ?_ rfl
 show (jCK Wz (lG ns w0 a H n f l0 l1 l2 l3 l4 l5 l6 (some (.int c,l7)) x8 (some (dD d,JZ (dD d))) x10 x11 x12)).bind _ = _
 rw [x3,Option.bind_some]
 show (if ((d :: gs).map dD).length <= lim then some ((d :: gs).map dD) else none).bind _ = _
 rw [if_pos (by rw [vBF,List.length_cons];exact vAz (vBl hgl) (by decide)),Option.bind_some]
 exact e
theorem qDG:∀ (ds:List Dd) {n:Nw} {Wz:Sg} {Z:G},Sp a H n hs Wz -> Sh ns w0 a H n f (some (.int c,l7)) x12 Z -> (∀ d ∈ ds,okD d) -> n.2.2.length + 3 * ds.length <= lim -> 
  ∃ n' W' Z',jDL jHK 9 (ds.map dD) Wz Z = some (.next Z' W') /\ Sh ns w0 a H n' f (some (.int c,l7)) x12 Z' /\ Sp a H n' hs W' /\ n'.2.2.length <= n.2.2.length + 3 * ds.length:=by
 intro ds
 induction ds with
 | nil =>
  intro n Wz Z S h _ _
  exact ⟨n,Wz,Z,rfl,h,S,vBI _⟩
 | cons d ds ih =>
  intro n Wz Z S h hd hl
  rw [List.length_cons] at hl
  obtain ⟨n1z,W1z,Z1z,e1,h1,S1,b1⟩:=qHB S h (hd d (vBA ..)) (lN [_,_,_] (.a (.v 0) (.n 3)) (.v 1) [(.a (.v 0) (.m 3 (.a (.v 2) (.n 1))),.v 1)] rT hl)
  obtain ⟨n',W',Z',e2,h2,S2,b2⟩:=ih S1 h1 (fun x hx=>hd x (vBC _ hx)) (lN [_,_,_,_] (.a (.v 0) (.m 3 (.v 1))) (.v 2) [(.a (.v 3) (.m 3 (.a (.v 1) (.n 1))),.v 2),(.v 0,.a (.v 3) (.n 3))] rT hl b1)
  refine ⟨n',W',Z',?_,h2,S2,by rw [List.length_cons];exact lN [_,_,_,_] (.v 0) (.a (.v 1) (.m 3 (.a (.v 2) (.n 1)))) [(.v 3,.a (.v 1) (.n 3)),(.v 0,.a (.v 3) (.m 3 (.v 2)))] rT b1 b2⟩
  rw [List.map_cons,vj,e1]
  exact e2
end
section
variable {a:Addr} {n:Nw} {f:Bool} {c:Int} {x7:Option (D × Nat)}
theorem qBF {α:Type} {x0 x1:Option (D × Nat)} {a:Addr} {l:Nat} {g:D -> G -> Option (R α)} (hp:Wz.pg a = some p):Zf Wz 2 g (x0 :: x1 :: some (.ob a,l) :: Z) = g (.ob a) (x0 :: x1 :: some (.ob a,l) :: Z):=by
 show (if (Wz.pg a).isSome then _ else _) = _
 rw [hp];rfl
theorem qEY:qLC (d,2) (some (.ok ds)) = some (.ok (d :: ds)):=rfl
theorem qAR {x0 x1:Option (D × Nat)} {l:Nat} (S:Sp a H n hs Wz) (hZ:11 < (x0 :: x1 :: some (.ob a,l) :: Z).length) {g:Sg -> G -> Option (R (List D))} (hg:g = jDR) :
  jVE 11 (g Wz) (x0 :: x1 :: some (.ob a,l) :: Z) = some (.next ((x0 :: x1 :: some (.ob a,l) :: Z).set 11 none)):=by
 subst hg
 have ok:=S.ok.cur
 have e:jDR Wz (x0 :: x1 :: some (.ob a,l) :: Z) = some (.ok [dW n.1,tel n.1 n.2.1 2,tel n.1 n.2.1 3,tel n.1 n.2.1 4]):=by
  unfold jDR
  rw [qBF S.pg,qBF S.pg,qBF S.pg,qBF S.pg]
  (wp_walk using qm S.pg ok,jAH S.pg ok,ko S.pg ok,jAU S.pg ok,qEY)
 unfold jVE
 rw [e]
 show (if _ then _ else _) = _
 rw [if_pos]
 rw [List.all_cons,List.all_cons,List.all_cons,List.all_cons,(by show decide ((n.1.map D.str).length + 1 <= lim) = true;rw [vBF];exact vBk (vAz (vBl ok.len) (by decide)):jKZ (dW n.1) = true),(by show decide (((tab n.1 n.2.1).map D.int).length + 1 <= lim) = true;rw [vBF];exact vBk (vAz (vBl ok.tl) (by decide)):jKZ (tel n.1 n.2.1 2) = true),(by show decide (((nz (yX n.1 n.2.1)).map D.int).length + 1 <= lim) = true;rw [vBF];exact vBk (vAz (vBl ok.bl) (by decide)):jKZ (tel n.1 n.2.1 3) = true),(by show decide (((kd n.1 (nz (yX n.1 n.2.1))).map D.str).length + 1 <= lim) = true;rw [vBF];exact vBk (vAz (vBl ok.ll) (by decide)):jKZ (tel n.1 n.2.1 4) = true)]
 exact vBk ⟨show (4:Nat) <= lim by decide,hZ⟩
theorem ye (S:Sp a H n hs Wz) (hl:hs.length + 4 <= lim) (full:Bool) (way:Int) :
  ∃ ds,ds.length <= 4 /\ J9 Wz [.ob a,dW n.1,.int n.2.1,.bool full,.ob H,.int way] = some (.bool true,Xr Wz H (hsD (hs ++ ds))) /\ Sp a H n (hs ++ ds) (Xr Wz H (hsD (hs ++ ds))):=by
 obtain ⟨ds,h1,h2,h3⟩:=jWK S.pg S.ok.cur S.hd hl full way
 exact ⟨ds,h2,h3,S.pg,xh ..,S.ok,fun d hd=>(vBK.mp hd).elim (S.lf d) (h1 d)⟩
set_option maxHeartbeats 2000000 in
theorem qHK (S:Sp a H n hs Wz) (h:Sh ns w0 a H n f x7 x12 Z) (hl:n.2.2.length + 357 <= lim) (hl2:hs.length + 4 <= lim) :
  ∃ n' hs' W' Z' f' x7',yZ Wz (Z.set 7 (some (.int c,2))) = some (.next Z' W') /\ Sh ns w0 a H n' f' x7' x12 Z' /\ Sp a H n' hs' W' /\ n'.2.2.length <= n.2.2.length + 357 /\ hs'.length <= hs.length + 4:=by
 obtain ⟨l0,l1,l2,l3,l4,l5,l6,x8,x9,x10,x11,rfl⟩:=h
 refine nn fun gN=>?_
 obtain ⟨ds,lv,ed,hd,hdl⟩:=jPZ c n.2.1 n.1.length f
 have q6:∃ m4 m5 m7,jIA Wz (lG ns w0 a H n f l0 l1 l2 l3 l4 l5 l6 (some (.int c,2)) x8 x9 x10 x11 x12) =
   some (.next (lG ns w0 a H n f l0 l1 l2 l3 m4 m5 l6 (some (.int c,m7)) (some (.list (ds.map dD),lv)) x9 x10 x11 x12) Wz):=by
  have hv:∃ m4 m5 m7,jGG [7,4,4,5] 8 (.list (ds.map dD),lv) (lG ns w0 a H n f l0 l1 l2 l3 l4 l5 l6 (some (.int c,2)) x8 x9 x10 x11 x12) = (lG ns w0 a H n f l0 l1 l2 l3 m4 m5 l6 (some (.int c,m7)) (some (.list (ds.map dD),lv)) x9 x10 x11 x12):=by
   unfold jGG
   rw [if_neg (by show ¬ (false = true);decide)]
   by_cases h2:2 <= lv
   ·exact ⟨l4,l5,2,by rw [if_pos h2];rfl⟩
   ·exact ⟨0,0,0,by rw [if_neg h2];rfl⟩
  obtain ⟨m4,m5,m7,hv⟩:=hv
  refine ⟨m4,m5,m7,?_⟩
  unfold jIA jON
  (wp_walk using t30,t31,(JU D.str n.1 (Xk S.ok.cur.len)),ed,hv)
  rfl
 obtain ⟨m4,m5,m7,q6⟩:=q6
 have q7:∃ f2 m5',jCZ Wz (lG ns w0 a H n f l0 l1 l2 l3 m4 m5 l6 (some (.int c,m7)) (some (.list (ds.map dD),lv)) x9 x10 x11 x12) = some (.next (lG ns w0 a H n f2 l0 l1 l2 l3 m4 m5' l6 (some (.int c,m7)) (some (.list (ds.map dD),lv)) x9 x10 x11 x12) Wz):=by
  cases f with
  | true=>exact ⟨true,2,by unfold jCZ jHT;(wp_walk using (JU dD ds (vAz hdl (by decide))));rfl⟩
  | false=>exact ⟨decide ((1:Int) < ds.length),2,by unfold jCZ jHT;(wp_walk using (JU dD ds (vAz hdl (by decide))));rfl⟩
 obtain ⟨f2,m5',q7⟩:=q7
 have hl3:n.2.2.length + 3 * ds.length <= n.2.2.length + 357:=by exact lN [_,_] (.a (.v 0) (.m 3 (.v 1))) (.a (.v 0) (.n 357)) [(.m 3 (.v 1),.m 3 (.n 119))] rT (Nat.mul_le_mul_left 3 hdl)
 obtain ⟨n1,W1,Z1y,e1,h1,S1,b1⟩:=qDG (ns:=ns) (w0:=w0) (f:=f2) (c:=c) (l7:=m7) (x12:=x12) (Z:=JX [8] (lG ns w0 a H n f2 l0 l1 l2 l3 m4 m5' l6 (some (.int c,m7)) (some (.list (ds.map dD),lv)) x9 x10 x11 x12)) ds S ⟨_,_,_,_,_,_,_,_,_,_,_,rfl⟩ hd (vAz hl3 hl)
 have q11:jID Wz (lG ns w0 a H n f2 l0 l1 l2 l3 m4 m5' l6 (some (.int c,m7)) (some (.list (ds.map dD),lv)) x9 x10 x11 x12) = some (.next Z1y W1):=by
  show (some (D.list (ds.map dD),Wz,JX [8] (lG ns w0 a H n f2 l0 l1 l2 l3 m4 m5' l6 (some (.int c,m7)) (some (.list (ds.map dD),lv)) x9 x10 x11 x12))).bind _ = _
  rw [Option.bind_some]
  show (if (ds.map dD).length <= lim then some (ds.map dD) else none).bind _ = _
  rw [if_pos (by rw [vBF];exact vAz hdl (by decide)),Option.bind_some]
  exact e1
 obtain ⟨k0,k1,k2,k3,k4,k5,k6,y8,y9,y10,y11,rfl⟩:=h1
 have hpl:=zG (dP n1.2.2) (by rw [jED];exact vAz (vAz b1 (vAz hl3 hl)) (by decide))
 rw [jED] at hpl
 obtain ⟨es,hel,est,S2⟩:=ye S1 hl2 (((n1.2.2.length:Int).fmod 16) == 9) c
 have x5:jHG W1 (lG ns w0 a H n1 f2 k0 k1 k2 k3 k4 k5 k6 (some (.int c,m7)) y8 y9 y10 y11 x12) =
   some (.bool true,Xr W1 H (hsD (hs ++ es)),(lG ns w0 a H n1 f2 k0 k1 0 k3 0 k5 0 (some (.int c,0)) y8 y9 y10 y11 x12)):=by
  unfold jHG
  (wp_walk using t30,t31,t32,hpl)
  unfold Qd
  dsimp only
  rw [est];rfl
 have q13:jBY W1 (lG ns w0 a H n1 f2 k0 k1 k2 k3 k4 k5 k6 (some (.int c,m7)) y8 y9 y10 y11 x12) =
   some (.next (lG ns w0 a H n1 f2 k0 k1 0 k3 0 k5 0 (some (.int c,0)) y8 y9 y10 y11 x12) (Xr W1 H (hsD (hs ++ es)))):=by
  unfold jBY jNU jNV
  rw [x5];rfl
 have q14:∃ Z',vY (Xr W1 H (hsD (hs ++ es))) (lG ns w0 a H n1 f2 k0 k1 0 k3 0 k5 0 (some (.int c,0)) y8 y9 y10 y11 x12) = some (.next Z' (Xr W1 H (hsD (hs ++ es)))) /\ Sh ns w0 a H n1 f2 (some (.int c,0)) x12 Z':=by
  have e7:jVE 11 (jDR (Xr W1 H (hsD (hs ++ es)))) (lG ns w0 a H n1 f2 k0 k1 0 k3 0 k5 0 (some (.int c,0)) y8 y9 y10 y11 x12) = some (.next (lG ns w0 a H n1 f2 k0 k1 0 k3 0 k5 0 (some (.int c,0)) y8 y9 y10 none x12)):=by
   refine qAR S2 ?_ rfl
   show 11 < 13
   decide
  cases hc1:((c.fdiv 5).fmod 8 == 1) with
  | false =>
   refine ⟨(lG ns w0 a H n1 f2 k0 k1 0 k3 0 k5 0 (some (.int c,0)) y8 y9 y10 y11 x12),?_,⟨k0,k1,0,k3,0,k5,0,y8,y9,y10,y11,rfl⟩⟩
   unfold vY yn
   (wp_walk using hc1)
   rfl
  | true =>
   by_cases hc2:(n1.1.length:Int) < 21
   ·refine ⟨(lG ns w0 a H n1 f2 k0 k1 0 k3 0 k5 0 (some (.int c,0)) y8 y9 y10 none x12),?_,⟨k0,k1,0,k3,0,k5,0,y8,y9,y10,none,rfl⟩⟩
    unfold vY yn
    (wp_walk using hc1,t30,(JU D.str n1.1 (Xk S2.ok.cur.len)),hc2,e7)
    rfl
   ·refine ⟨(lG ns w0 a H n1 f2 k0 k1 0 k3 0 k5 0 (some (.int c,0)) y8 y9 y10 y11 x12),?_,⟨k0,k1,0,k3,0,k5,0,y8,y9,y10,y11,rfl⟩⟩
    unfold vY yn
    (wp_walk using hc1,t30,(JU D.str n1.1 (Xk S2.ok.cur.len)),hc2)
    rfl
 obtain ⟨Z',q14,h2⟩:=q14
 exact gN ⟨n1,hs ++ es,_,Z',f2,_,JP (f:=jHM) q6 (JP (f:=jHN) q7 (JP (f:=jHO) q11 (JP (f:=jHP) q13 (JP (f:=jNZ) q14 rfl)))),h2,S2,vAz b1 hl3,by rw [vBO];exact Nat.add_le_add_left hel _⟩
theorem qDJ:∀ (cs:List Int) {n:Nw} {hs:List D} {Wz:Sg} {Z:G} {f:Bool} {x7:Option (D × Nat)},Sp a H n hs Wz -> Sh ns w0 a H n f x7 x12 Z -> n.2.2.length + 357 * cs.length <= 100000 -> hs.length + 4 * cs.length <= 100000 -> 
  ∃ n' hs' W' Z' f' x7',jDL yZ 7 (cs.map .int) Wz Z = some (.next Z' W') /\ Sh ns w0 a H n' f' x7' x12 Z' /\ Sp a H n' hs' W' /\ hs'.length <= hs.length + 4 * cs.length:=by
 intro cs
 induction cs with
 | nil =>
  intro n hs Wz Z f x7 S h _ _
  exact ⟨n,hs,Wz,Z,f,x7,rfl,h,S,vBI _⟩
 | cons c cs ih =>
  intro n hs Wz Z f x7 S h hl hl2
  rw [List.length_cons] at hl hl2
  refine nn fun gN=>?_
  obtain ⟨n1z,hs1z,W1z,Z1z,f1z,y7,e1,h1,S1,b1,b1'⟩:=qHK (c:=c) S h (by unfold lim;exact vAz (vCf (vAz (vBW ..) hl) _) (by decide)) (by unfold lim;exact vAz (vCf (vAz (vBW ..) hl2) _) (by decide))
  obtain ⟨n',hs',W',Z',f',z7,e2,h2,S2,b2⟩:=ih S1 h1 (lN [_,_,_] (.a (.v 0) (.m 357 (.v 1))) (.n 100000) [(.a (.v 2) (.m 357 (.a (.v 1) (.n 1))),.n 100000),(.v 0,.a (.v 2) (.n 357))] rT hl b1) (lN [_,_,_] (.a (.v 0) (.m 4 (.v 1))) (.n 100000) [(.a (.v 2) (.m 4 (.a (.v 1) (.n 1))),.n 100000),(.v 0,.a (.v 2) (.n 4))] rT hl2 b1')
  refine gN ⟨n',hs',W',Z',f',z7,?_,h2,S2,by rw [List.length_cons];exact lN [_,_,_,_] (.v 0) (.a (.v 1) (.m 4 (.a (.v 2) (.n 1)))) [(.v 3,.a (.v 1) (.n 4)),(.v 0,.a (.v 3) (.m 4 (.v 2)))] rT b1' b2⟩
  rw [List.map_cons,vj]
  show lpT (yZ Wz (Z.set 7 (some (.int c,2)))) _ = _
  rw [e1]
  exact e2
end
section
theorem Y5 {q:Te} {R:Sg -> G -> (OT -> Prop) -> Prop} {U:OT -> Prop} (h:q Wz Z = some (.next Z' W')) (h2:R W' Z' U):jOM (ofF q) R Wz Z U:=⟨_,h,h2⟩
theorem jJP:∀ hs:List D,(∀ d ∈ hs,D.eqb d d = true) -> D.eqs hs hs = true:=by
 intro hs
 induction hs with
 | nil =>
  intro _
  exact rfl
 | cons d hs ih =>
  intro h
  show (D.eqb d d && D.eqs hs hs) = true
  rw [h d (vBA ..),ih fun x hx=>h x (vBC _ hx)];rfl
theorem jEF:∀ hs:List D,(∀ d ∈ hs,D.cmpb d d = true) -> D.cmps hs hs = true:=by
 intro hs
 induction hs with
 | nil =>
  intro _
  exact rfl
 | cons d hs ih =>
  intro h
  show (D.cmpb d d && D.cmps hs hs) = true
  rw [h d (vBA ..),ih fun x hx=>h x (vBC _ hx)];rfl
theorem Leafy.eqb (h:Leafy d):D.eqb d d = true:=by
 rcases h with ⟨ss,rfl⟩ | ⟨ts,rfl⟩
 ·exact jJP _ fun d hd=>by obtain ⟨x,-,rfl⟩:=vBa.mp hd;show (x == x) = true;simp
 ·exact jJP _ fun d hd=>by obtain ⟨x,-,rfl⟩:=vBa.mp hd;show (x == x) = true;simp
theorem Leafy.cmpb (h:Leafy d):D.cmpb d d = true:=by
 rcases h with ⟨ss,rfl⟩ | ⟨ts,rfl⟩
 ·exact jEF _ fun d hd=>by obtain ⟨x,-,rfl⟩:=vBa.mp hd;rfl
 ·exact jEF _ fun d hd=>by obtain ⟨x,-,rfl⟩:=vBa.mp hd;rfl
theorem jPX (k:Nat):∀ hs:List D,(∀ d ∈ hs,d.dep <= k) -> D.deps hs <= k:=by
 intro hs
 induction hs with
 | nil =>
  intro _
  exact vBz _
 | cons d hs ih =>
  intro h
  exact Nat.max_le.mpr ⟨h d (vBA ..),ih fun x hx=>h x (vBC _ hx)⟩
theorem Leafy.dep (h:Leafy d):d.dep <= 1:=by
 rcases h with ⟨ss,rfl⟩ | ⟨ts,rfl⟩
 ·exact vBl (jPX 0 _ fun d hd=>by obtain ⟨x,-,rfl⟩:=vBa.mp hd;exact vBI _)
 ·exact vBl (jPX 0 _ fun d hd=>by obtain ⟨x,-,rfl⟩:=vBa.mp hd;exact vBI _)
theorem qGL (hs:List D) (h:∀ d ∈ hs,Leafy d):eqF [.list hs,.list hs] = some (.ok (.bool true,2)):=by
 exact qEQ (jEF hs fun d hd=>(h d hd).cmpb:D.cmpb (.list hs) (.list hs) = true) (vBl (vAz (jPX 1 hs fun d hd=>(h d hd).dep) (by decide)):(D.list hs).dep <= 100) (jJP hs fun d hd=>(h d hd).eqb:D.eqb (.list hs) (.list hs) = true)
theorem qGF (hl:hs.length <= lim) (h:∀ d ∈ hs,Leafy d) {x0 x1 x2 x4 x5 x7 x8 x9 x10 x11:Option (D × Nat)} :
  jBW [x0,x1,x2,x3,x4,x5,some (.list (hsD hs),0),x7,x8,x9,x10,x11,x12] = some (.ret (.bool true) 2):=by
 have hit:itF (.list (hsD hs),0) = some (.ok (hs.map fun d=>.tup [d,d])):=jIV _ _ (by unfold hsD;rw [vBF];exact hl)
 have c1:=Yh (fE:=jZM) (cap:=[]) (Z:=[x0,x1,x2,x3,x4,x5,some (.list (hsD hs),0),x7,x8,x9,x10,x11,x12]) (fun d:D=>.tup [d,d]) (fun d=>d) hs (fun d _=>⟨0,rfl⟩)
 have c2:=Yh (fE:=jZL) (cap:=[]) (Z:=[x0,x1,x2,x3,x4,x5,some (.list (hsD hs),0),x7,x8,x9,x10,x11,x12]) (fun d:D=>.tup [d,d]) (fun d=>d) hs (fun d _=>⟨0,rfl⟩)
 rw [List.map_id'] at c1 c2
 unfold jBW
 (wp_walk using hit,c1,c2,qGL hs h)
variable {a:Addr} {n:Nw} {f:Bool} {x7 x8 x9 x10 x11:Option (D × Nat)} {l0 l1 l2 l3 l4 l5 l6 l12 lc:Nat}
abbrev fG (ns:List Int) (w0:Int) (a H b:Addr) (n:Nw) (f:Bool) (x7 x8 x9 x10 x11:Option (D × Nat)) (l0 l1 l2 l3 l4 l5 l6 l12:Nat):G :=
 [some (.list (ns.map .int),l0),some (.int w0,l1),some (.ob a,l2),some (.int 1,l3),some (jVK n,l4),some (.bool f,l5),some (.ob H,l6),x7,x8,x9,x10,x11,some (.ob b,l12)]
theorem qJJ (w:Int) (h1:1 <= w) (h2:w <= 9):Okr [] w /\ Okr [[97]] w:=by
 refine ⟨⟨h1,by exact Int.le_of_lt (Int.lt_of_le_of_lt h2 (by decide)),by decide,fun _ h=>(nomatch h)⟩,⟨h1,by exact Int.le_of_lt (Int.lt_of_le_of_lt h2 (by decide)),by decide,fun x hx=>?_⟩⟩
 obtain rfl:=vBH.mp hx
 exact ⟨by decide,h1⟩
theorem qNA (c1:JY [.list (ns.map .int),.int 1] = some (.ok (.int a1,lc))) (S:Sp b H ([],1 + a1.fmod 9,[]) hs Wz) (hl:hs.length + 4 <= lim) :
  ∃ hs' W',yu Wz (fG ns w0 a H b n f x7 x8 x9 x10 x11 l0 l1 l2 l3 l4 l5 l6 l12) = some (.next (fG ns w0 a H b n f x7 x8 x9 x10 x11 0 0 l2 l3 l4 l5 0 0) W') /\ Sp b H ([[97]],1 + a1.fmod 9,[([],1 + a1.fmod 9)]) hs' W' /\ hs'.length <= hs.length + 4 /\ ∀ x,x ≠ b -> W'.pg x = Wz.pg x:=by
 have m9:0 <= a1.fmod 9 /\ a1.fmod 9 < 9:=⟨vBN _ (by decide),vBS _ (by decide)⟩
 obtain ⟨okE,okA⟩:=qJJ (1 + a1.fmod 9) (Int.add_le_add_left m9.1 _) (lZ [_] (.a (.n 1) (.v 0)) (.n 9) [(.a (.v 0) (.n 1),.n 9)] rT m9.2)
 obtain ⟨es,h1,h2,S2⟩:=ye S hl true w0
 have x6:jHF Wz (fG ns w0 a H b n f x7 x8 x9 x10 x11 l0 l1 l2 l3 l4 l5 l6 l12) = some (.bool true,Xr Wz H (hsD (hs ++ es)),fG ns w0 a H b n f x7 x8 x9 x10 x11 0 0 l2 l3 l4 l5 0 0):=by
  unfold jHF
  (wp_walk using c1,show J3 [] = some (.ok (dW [],2)) from rfl)
  show Qd Wz _ _ (some (.ok [.ob b,dW [],.int (1 + a1.fmod 9),.bool true,.ob H,.int w0])) = _
  unfold Qd
  dsimp only
  rw [h2];rfl
 have hr:vX [] (1 + a1.fmod 9) [] (.put ((0:Nat):Int) [97]) = none:=by
  unfold vX
  dsimp only
  rw [if_pos (by decide),if_pos (by decide),if_neg (by exact Int.not_lt.mpr (Int.add_le_add_left m9.1 1)),if_neg (by decide)]
 have hput:=jNG (i:=0) (x:=[97]) S2.pg (show 0 <= 120 by decide) (by decide) (show 0 + 1 <= lim by decide) hr
 have x7':jNW (Xr Wz H (hsD (hs ++ es))) (fG ns w0 a H b n f x7 x8 x9 x10 x11 0 0 l2 l3 l4 l5 0 0) = some (.none,XH (Xr Wz H (hsD (hs ++ es))) b (pgN ([[97]],1 + a1.fmod 9,[([],1 + a1.fmod 9)])),fG ns w0 a H b n f x7 x8 x9 x10 x11 0 0 l2 l3 l4 l5 0 0):=by
  show (if ((Xr Wz H (hsD (hs ++ es))).pg b).isSome then Qd _ _ _ (some (.ok [.int 0,.str [97]])) else none) = _
  rw [S2.pg]
  show Qd _ _ (fun Wz ds=>jBB Wz (.ob b :: ds)) (some (.ok [.int 0,.str [97]])) = _
  unfold Qd
  dsimp only
  rw [show jBB (Xr Wz H (hsD (hs ++ es))) [.ob b,.int 0,.str [97]] = _ from hput];rfl
 refine ⟨hs ++ es,XH (Xr Wz H (hsD (hs ++ es))) b (pgN ([[97]],1 + a1.fmod 9,[([],1 + a1.fmod 9)])),?_,⟨jd ..,S2.hd,⟨okA,fun p hp=>by obtain rfl:=vBH.mp hp;exact okE⟩,S2.lf⟩,by rw [vBO];exact Nat.add_le_add_left h1 _,fun x hx=>if_neg hx⟩
 have y4:jHC Wz (fG ns w0 a H b n f x7 x8 x9 x10 x11 l0 l1 l2 l3 l4 l5 l6 l12) = some (false,Xr Wz H (hsD (hs ++ es)),fG ns w0 a H b n f x7 x8 x9 x10 x11 0 0 l2 l3 l4 l5 0 0):=by
  unfold jHC jNT
  rw [x6];rfl
 have y5:jHB (Xr Wz H (hsD (hs ++ es))) (fG ns w0 a H b n f x7 x8 x9 x10 x11 0 0 l2 l3 l4 l5 0 0) = some (false,XH (Xr Wz H (hsD (hs ++ es))) b (pgN ([[97]],1 + a1.fmod 9,[([],1 + a1.fmod 9)])),fG ns w0 a H b n f x7 x8 x9 x10 x11 0 0 l2 l3 l4 l5 0 0):=by
  unfold jHB
  rw [x7'];rfl
 unfold yu jNO
 rw [y4,Option.bind_some]
 show (jHA (Xr Wz H (hsD (hs ++ es))) _).bind _ = _
 unfold jHA
 rw [y5];rfl
theorem qMZ (c1:JY [.list (ns.map .int),.int 1] = some (.ok (.int a1,lc))) (S:Sp b H ([[97]],1 + a1.fmod 9,[([],1 + a1.fmod 9)]) hs Wz) (hl:hs.length + 4 <= lim) :
  ∃ hs' W',yt Wz (fG ns w0 a H b n f x7 x8 x9 x10 x11 l0 l1 l2 l3 l4 l5 l6 l12) = some (.next (fG ns w0 a H b n f x7 x8 x9 x10 x11 0 0 l2 l3 l4 l5 0 0) W') /\ Sp b H ([[97]],1 + a1.fmod 9,[([],1 + a1.fmod 9)]) hs' W' /\ hs'.length <= hs.length + 4 /\ ∀ x,W'.pg x = Wz.pg x:=by
 obtain ⟨es,h1,h2,S2⟩:=ye S hl true w0
 have x8':jHE Wz (fG ns w0 a H b n f x7 x8 x9 x10 x11 l0 l1 l2 l3 l4 l5 l6 l12) = some (.bool true,Xr Wz H (hsD (hs ++ es)),fG ns w0 a H b n f x7 x8 x9 x10 x11 0 0 l2 l3 l4 l5 0 0):=by
  unfold jHE
  (wp_walk using c1,show J3 [.str [97]] = some (.ok (dW [[97]],2)) from rfl)
  show Qd Wz _ _ (some (.ok [.ob b,dW [[97]],.int (1 + a1.fmod 9),.bool true,.ob H,.int w0])) = _
  unfold Qd
  dsimp only
  rw [h2];rfl
 refine ⟨hs ++ es,Xr Wz H (hsD (hs ++ es)),?_,S2,by rw [vBO];exact Nat.add_le_add_left h1 _,fun _=>rfl⟩
 unfold yt jNR jNS
 rw [x8'];rfl
theorem qMY (c1:JY [.list (ns.map .int),.int 1] = some (.ok (.int a1,lc))) (S:Sp a H n hs Wz) (hl:hs.length + 4 <= lim) :
  ∃ hs' W',yr Wz (fG ns w0 a H b n f x7 x8 x9 x10 x11 l0 l1 l2 l3 l4 l5 l6 l12) = some (.next (fG ns w0 a H b n f x7 x8 x9 x10 x11 0 l1 0 l3 0 l5 0 l12) W') /\ Sp a H n hs' W' /\ hs'.length <= hs.length + 4:=by
 obtain ⟨es,h1,h2,S2⟩:=ye S hl true a1
 have x9':jHD Wz (fG ns w0 a H b n f x7 x8 x9 x10 x11 l0 l1 l2 l3 l4 l5 l6 l12) = some (.bool true,Xr Wz H (hsD (hs ++ es)),fG ns w0 a H b n f x7 x8 x9 x10 x11 0 l1 0 l3 0 l5 0 l12):=by
  unfold jHD
  (wp_walk using c1,t30,t31)
  show Qd Wz _ _ (some (.ok [.ob a,dW n.1,.int n.2.1,.bool true,.ob H,.int a1])) = _
  unfold Qd
  dsimp only
  rw [h2];rfl
 refine ⟨hs ++ es,Xr Wz H (hsD (hs ++ es)),?_,S2,by rw [vBO];exact Nat.add_le_add_left h1 _⟩
 unfold yr jNP jNQ
 rw [x9'];rfl
end
noncomputable abbrev pG (ns:List Int) (x1 x2 x3 x4 x5 x6:Option (D × Nat)):G:=[some (.list (ns.map .int),0),x1,x2,x3,x4,x5,x6,none,none,none,none,none,none]
theorem qLQ:(0:Int) < 1000000000000000000000000000000:=by decide
theorem qJO {lc:Nat} {a:Addr} (c1:JY [.list (ns.map .int),.int 1] = some (.ok (.int a1,lc))) :
  jDB Wz (pG ns (some (.int w0,0)) (some (.ob a,2)) none none none none) = some (.next (pG ns (some (.int w0,0)) (some (.ob a,2)) (some (.int 1,2)) none none none) Wz):=by
 have it:∃ v:Int,JL [.list [.int 3,.int 1000000000000000000000000000000],.int (a1.fmod 2)] = some (.ok (.int v,0)) /\ 0 < v:=by
  rcases jZB a1 with h | h <;> rw [h]
  ·exact ⟨3,rfl,by decide⟩
  ·exact ⟨_,rfl,qLQ⟩
 obtain ⟨v,it,hv⟩:=it
 have l2:J3 [.int 3,.int 1000000000000000000000000000000] = some (.ok (.list [.int 3,.int 1000000000000000000000000000000],2)):=rfl
 have hm:=zE a1 v (Int.ne_of_gt hv)
 unfold jDB jOP
 (wp_walk using c1,p30,l2,it,hm,(jOV (-(a1.fmod v)) (by exact lZ [_] (.a (.g (.v 0)) (.n 1)) (.n 1) [(.n 0,.v 0)] rT (vBN a1 hv))))
 rfl
set_option maxHeartbeats 4000000 in
theorem qBL (ns:List Int) (h:ns.length <= 63):qHS ⟨fun _=>none,fun _=>none⟩ (Xm 12 [.list (ns.map .int)]) (fun r=>∃ W',r = .ret (.bool true) W'):=by
 obtain ⟨lc0,c0⟩:=jGV ns 0 h
 obtain ⟨lc1,c1⟩:=jGV ns 1 h
 generalize ns.getD 0 0 = a0 at c0
 generalize ns.getD 1 0 = a1 at c1
 replace c0:JY [.list (ns.map .int),.int 0] = _:=c0
 replace c1:JY [.list (ns.map .int),.int 1] = _:=c1
 obtain ⟨w0,lw,ew,hw1,hw2⟩:=jIL a0
 have q1:zq ⟨fun _=>none,fun _=>none⟩ (Xm 12 [.list (ns.map .int)]) = some (.next (pG ns (some (.int w0,2)) none none none none none) ⟨fun _=>none,fun _=>none⟩):=by
  show zq _ (pG ns none none none none none none) = _
  unfold zq jOQ
  (wp_walk using c0,ew)
  rfl
 refine Y5 (R:=jQX) q1 ?_
 refine ⟨[.int w0],rfl,?_⟩
 unfold jXY
 refine ⟨w0,rfl,hw1,fun a ha=>?_⟩
 show jQW (XH ⟨fun _=>none,fun _=>none⟩ a (pgN ([],w0,[]))) (pG ns (some (.int w0,0)) (some (.ob a,2)) none none none none) _
 have hp0:(XH ⟨fun _=>none,fun _=>none⟩ a (pgN ([],w0,[]))).pg a = some (pgN ([],w0,[])):=jd ..
 generalize XH ⟨fun _=>none,fun _=>none⟩ a (pgN ([],w0,[])) = W1 at hp0
 refine Y5 (R:=jQV) (qJO c1) ?_
 have hisi:qCG W1 (.ob a,0) = some (.ok (.bool true,2)):=by
  show (if (W1.pg a).isSome then okB true else none) = _
  rw [hp0];rfl
 have q3:jDA W1 (pG ns (some (.int w0,0)) (some (.ob a,2)) (some (.int 1,2)) none none none) = some (.next (pG ns (some (.int w0,0)) (some (.ob a,2)) (some (.int 1,2)) none none none) W1):=by
  unfold jDA jOO
  (wp_walk using hisi)
  rfl
 refine Y5 (R:=jQU) q3 ?_
 refine Y5 (R:=jQT) (rfl:jIC W1 (pG ns (some (.int w0,0)) (some (.ob a,2)) (some (.int 1,2)) none none none) = some (.next (pG ns (some (.int w0,0)) (some (.ob a,2)) (some (.int 1,2)) (some (jVK ([],w0,[]),0)) none none) W1)) ?_
 refine Y5 (R:=jQS) (rfl:jIB W1 (pG ns (some (.int w0,0)) (some (.ob a,2)) (some (.int 1,2)) (some (jVK ([],w0,[]),0)) none none) = some (.next (pG ns (some (.int w0,0)) (some (.ob a,2)) (some (.int 1,2)) (some (jVK ([],w0,[]),0)) (some (.bool false,2)) none) W1)) ?_
 intro H hH1 hH2
 show jQR (Xr W1 H (hsD [])) (lG ns w0 a H ([],w0,[]) false 0 0 2 2 0 2 2 none none none none none none) _
 have S1:Sp a H ([],w0,[]) [] (Xr W1 H (hsD [])):=⟨hp0,xh ..,⟨⟨hw1,hw2,by show 0 <= 120;decide,fun _ h=>(nomatch h)⟩,fun _ h=>(nomatch h)⟩,fun _ h=>(nomatch h)⟩
 have hcl:(Jf ns (some 2) none).length <= 63:=vAz (Zm _ _ _) h
 obtain ⟨n,hs,W2,Z2z,f,x7,e2,h2,S2,b2⟩:=qDJ (ns:=ns) (w0:=w0) (x12:=none) (Z:=JX [0] (lG ns w0 a H ([],w0,[]) false 0 0 2 2 0 2 2 none none none none none none)) (Jf ns (some 2) none) S1 ⟨_,_,_,_,_,_,_,_,_,_,_,rfl⟩ (by show 0 + _ <= _;exact vAz (vCp (vBI _) (Nat.mul_le_mul (vBI _) hcl)) (by decide)) (by show 0 + _ <= _;exact vAz (vCp (vBI _) (Nat.mul_le_mul (vBI _) hcl)) (by decide))
 have x1:jHH (Xr W1 H (hsD [])) (lG ns w0 a H ([],w0,[]) false 0 0 2 2 0 2 2 none none none none none none) = some (.list ((Jf ns (some 2) none).map .int),Xr W1 H (hsD []),JX [0] (lG ns w0 a H ([],w0,[]) false 0 0 2 2 0 2 2 none none none none none none)):=by
  unfold jHH
  (wp_walk using xi _ _ _ (show ns.length <= lim from vAz h (by decide)))
  rfl
 have q15:yx (Xr W1 H (hsD [])) (lG ns w0 a H ([],w0,[]) false 0 0 2 2 0 2 2 none none none none none none) = some (.next Z2z W2):=by
  unfold yx
  rw [x1,Option.bind_some]
  show (if ((Jf ns (some 2) none).map D.int).length <= lim then some ((Jf ns (some 2) none).map D.int) else none).bind _ = _
  rw [if_pos (by rw [vBF];exact vAz hcl (by decide)),Option.bind_some]
  exact e2
 refine Y5 (R:=jQQ) q15 ?_
 obtain ⟨k0,k1,k2,k3,k4,k5,k6,y8,y9,y10,y11,rfl⟩:=h2
 have q16:yv W2 (lG ns w0 a H n f k0 k1 k2 k3 k4 k5 k6 x7 y8 y9 y10 y11 none) = some (.next (lG ns w0 a H n f k0 k1 k2 k3 k4 k5 k6 x7 y8 y9 y10 none none) W2):=by
  unfold yv jHU
  rw [qAR S2 (by show 11 < 13;decide) (g:=jYV) rfl]
  rfl
 refine Y5 (R:=jQP) q16 ?_
 refine ⟨[.int (1 + a1.fmod 9)],by unfold jPN;(wp_walk using c1),?_⟩
 unfold jXY
 refine ⟨1 + a1.fmod 9,rfl,by exact Int.add_le_add_left (⟨vBN _ (by decide),vBS _ (by decide)⟩:0 <= a1.fmod 9 /\ a1.fmod 9 < 9).1 _,fun b hb=>?_⟩
 show jKI (XH W2 b (pgN ([],1 + a1.fmod 9,[]))) (fG ns w0 a H b n f x7 y8 y9 y10 none 0 k1 k2 k3 k4 k5 k6 2) _
 have hL:lim = 10000000:=rfl
 obtain ⟨hs4,W4,q18,S4,b4,p4⟩:=qNA (ns:=ns) (w0:=w0) (a:=a) (n:=n) (f:=f) (x7:=x7) (x8:=y8) (x9:=y9) (x10:=y10) (x11:=none) (l0:=0) (l1:=k1) (l2:=k2) (l3:=k3) (l4:=k4) (l5:=k5) (l6:=k6) (l12:=2) c1 (⟨jd ..,S2.hd,⟨(qJJ (1 + a1.fmod 9) (Int.add_le_add_left (⟨vBN _ (by decide),vBS _ (by decide)⟩:0 <= a1.fmod 9 /\ a1.fmod 9 < 9).1 _) (lZ [_] (.a (.n 1) (.v 0)) (.n 9) [(.a (.v 0) (.n 1),.n 9)] rT (⟨vBN _ (by decide),vBS _ (by decide)⟩:0 <= a1.fmod 9 /\ a1.fmod 9 < 9).2)).1,fun _ h=>(nomatch h)⟩,S2.lf⟩:Sp b H ([],1 + a1.fmod 9,[]) hs (XH W2 b (pgN ([],1 + a1.fmod 9,[])))) (by rw [hL];simp only [List.length_nil] at b2;exact lN [_,_] (.a (.v 0) (.n 4)) (.n 10000000) [(.m 4 (.v 1),.m 4 (.n 63)),(.v 0,.a (.n 0) (.m 4 (.v 1)))] rT (Nat.mul_le_mul_left 4 hcl) b2)
 refine Y5 (R:=jKH) q18 ?_
 obtain ⟨hs5,W5,q20,S5,b5,p5⟩:=qMZ (ns:=ns) (w0:=w0) (a:=a) (n:=n) (f:=f) (x7:=x7) (x8:=y8) (x9:=y9) (x10:=y10) (x11:=none) (l0:=0) (l1:=0) (l2:=k2) (l3:=k3) (l4:=k4) (l5:=k5) (l6:=0) (l12:=0) c1 S4 (by rw [hL];simp only [List.length_nil] at b2;exact lN [_,_,_] (.a (.v 0) (.n 4)) (.n 10000000) [(.m 4 (.v 1),.m 4 (.n 63)),(.v 2,.a (.n 0) (.m 4 (.v 1))),(.v 0,.a (.v 2) (.n 4))] rT (Nat.mul_le_mul_left 4 hcl) b2 b4)
 refine Y5 (R:=jKG) q20 ?_
 obtain ⟨hs6,W6,q22,S6,b6⟩:=qMY (ns:=ns) (w0:=w0) (b:=b) (f:=f) (x7:=x7) (x8:=y8) (x9:=y9) (x10:=y10) (x11:=none) (l0:=0) (l1:=0) (l2:=k2) (l3:=k3) (l4:=k4) (l5:=k5) (l6:=0) (l12:=0) c1 (⟨by rw [p5,p4 a (fun e=>by have q:=S2.pg;rw [e,hb] at q;exact nos q:a ≠ b)];exact (if_neg (fun e=>by have q:=S2.pg;rw [e,hb] at q;exact nos q:a ≠ b)).trans S2.pg,S5.hd,S2.ok,S5.lf⟩:Sp a H n hs5 W5) (by rw [hL];simp only [List.length_nil] at b2;exact lN [_,_,_,_] (.a (.v 0) (.n 4)) (.n 10000000) [(.m 4 (.v 1),.m 4 (.n 63)),(.v 2,.a (.n 0) (.m 4 (.v 1))),(.v 3,.a (.v 2) (.n 4)),(.v 0,.a (.v 3) (.n 4))] rT (Nat.mul_le_mul_left 4 hcl) b2 b4 b5)
 refine Y5 (R:=zp) q22 ?_
 exact ⟨H,0,hsD hs6,.bool true,2,rfl,S6.hd,rfl,qGF (by rw [hL];simp only [List.length_nil] at b2;exact lN [_,_,_,_,_] (.v 0) (.n 10000000) [(.m 4 (.v 1),.m 4 (.n 63)),(.v 2,.a (.n 0) (.m 4 (.v 1))),(.v 3,.a (.v 2) (.n 4)),(.v 4,.a (.v 3) (.n 4)),(.v 0,.a (.v 4) (.n 4))] rT (Nat.mul_le_mul_left 4 hcl) b2 b4 b5 b6) S6.lf,⟨_,_,rfl⟩,⟨_,rfl⟩⟩
end Mine.L14
end
open PySem PySem.W PyProof.Rows Mine Mine.L14
set_option maxRecDepth 100000 in
set_option maxHeartbeats 8000000 in
theorem PySem.Challenge.cw_uf040006_14_holds : PySem.Challenge.rw_uf040006_14.Holds :=
 qAC zD qBL

