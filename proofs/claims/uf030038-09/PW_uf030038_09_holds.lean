import PyProof.Rows.All
import Wide.All
import OpenK.AllK
import Wide.FinOn
import Open.FastRun
import Open.FastT9
import Open.Line
import KE.KNestM
import PyProof.Rows.KernelRfl
import OpenK.KWalk
import PyProof.Cells
import PyProof.CompFree
import PyProof.CompUse
import PyProof.DictCalls
import PyProof.DictIter
import PyProof.PlainList
import PyProof.Rules3
import PyProof.ListIndex
import PyProof.Rows.Frame
import PyProof.RangeFor
import PyProof.Rows.SortRuns
import PyProof.Rules2
import PyProof.PureInt
import PyProof.NoPylong
import PyProof.Rows.RuleB_floordiv
import PyProof.Rows.RuleB_mod
import PyProof.Rows.StrRules
import PyProof.Rows.Chain
import PyProof.Raises
import PyProof.RulesAssignMore
import PyProof.RulesMatch
import PyProof.TupleIter
import PyProof.LetGo
import PyProof.AssignAttr
import OpenK.KMore
import PyProof.CallRoads
import PyProof.CompMap
import PyProof.Walks
import PyProof.RangeIter
import PyProof.P3In
import PyProof.ListTruth
import PyProof.ListIndexNeg
import PyProof.SliceList
import PyProof.FactsAll.list_3
import PyProof.FactsAll.list_4
import PyProof.Rows.Tup
import PyProof.SeqWrite
import PyProof.ReprLoop
import PyProof.IsiPairs
import PyProof.IsiHeapPairs
import PyProof.IsiNone
import PyProof.ListCopy
import PyProof.TupleOfSeq
import PyProof.TupleCall
import PyProof.StrCalls2
import PyProof.ConsumeWalk
import PyProof.Rows.RuleN_abs
import PyProof.Rows.SeqMore
import PyProof.CallStr
import PyProof.StrBlock2
import PyProof.DictDisplay
import PyProof.DictTruth
import OpenK.KLine
import PyProof.DictTable
import PyProof.MeetsSeq
import KE.LcSums
import PyProof.P3Eq
import PyProof.Rows.TupAssign
import KE.KSortTup
import OpenK.KMake
import PyProof.TupleKey
import PyProof.FactsAll.tuple_1
import PyProof.FactsAll.tuple_2
import PyProof.FactsAll.dict_3
import PyProof.MeetsDictList
import PyProof.MinMaxWalk
import KE.KLam
import KE.KSortKey
import PyProof.DefCall
import PyProof.Rows.CallKw2
import PyProof.SliceStr2
import PyProof.StrBlockI
import PyProof.Rows.TopCatch
import PyProof.ExcBaseAll.ValueError
import KE.KTryMore
import KE.KIsAll
import PyProof.ExcAttrAll.ValueError
import PyProof.StrWalks
import PyProof.StrBlock
import PyProof.EqAt
import PyProof.WalksEnum
import PyProof.EnumMake
import PyProof.IsInstanceT
import PyProof.IsiTupleAll
import PyProof.WalkInts
import PyProof.Rows.RuleIs
import PyProof.AutoSeq1
import PyProof.Rows.MinMaxN
import PyProof.EqKinds
import PyProof.FactsAll.dict_1
import PyProof.IsiTupleOf
import PyProof.Rows.TupAdd
import PyProof.Rows.TupMore
import PyProof.NeKinds
import PyProof.Conv_int_bool
import PyProof.ListRange
import KE.KDictList
import KE.KMulAny
import PyProof.TableCode
import PySem.Challenge.RW_uf030038_09
set_option Elab.async false
set_option genInjectivity false
set_option tactic.hygienic false
set_option genSizeOf false
set_option autoImplicit false
namespace Mine
open PySem PySem.W PySem.Calls PyProof.Rows
section
variable {tb:String->Option Builtin} {p:Program} {w:World} {n₀:Nat} {ann:Option Value}
theorem Z21{t:Thread} {f:Flow} (h:endAt 0 t=some f):through t=true:=by
 obtain⟨cur,code,pos,st⟩:=t
 cases st with
 | cons a b=>simp[endAt]at h
 | nil=>
  cases cur with
  | pure x=>cases x with
   | done g=>rfl
   | again c=>simp[endAt]at h
  | _=>simp[endAt]at h
theorem Z1I{t:Thread} (h:endAt 0 t=none):through t=false:=by
 obtain⟨cur,code,pos,st⟩:=t
 cases st with
 | cons a b=>rfl
 | nil=>
  cases cur with
  | pure x=>cases x with
   | done g=>simp[endAt]at h
   | again c=>rfl
  | _=>rfl
theorem Z1b:∀{n:Nat} {s s':Shared} {t:Thread} {f:Flow} {c:Code} {q:Pos},segRun tb p w n₀ ann 0 n s t=some (f,s',c,q)->topRun tb p w n₀ ann n s t=some s'
 | 0,_,_,_,_,_,_,h=>by cases h
 | n+1,s,s',t,f,c,q,h=>by
  unfold segRun at h
  unfold topRun
  cases he:endAt 0 t with
  | some x=>rw[he]at h;cases h;rw[Z21 he]
  | none=>
   rw[he]at h
   rw[Z1I he]
   cases hk:stepOk n₀ ann t with
   | false=>rw[hk]at h;cases h
   | true=>
    rw[hk]at h
    cases hs:step (denote tb) p w s t with
    | halt o s₂=>rw[hs]at h;cases h
    | go s₂ t₂=>rw[hs]at h;exact Z1b h
end
noncomputable def Z1l {α:Type} (p q:Program) (loose:List Str) (Xt:Shared->Bool) (Yf:Shared->α) (g0:Bool) (H₀:Heap) (s:Shared):=
 ((staticsOk (importedModules p.main.body) H₀ s.heap&&namesBound p s.heap&&gensDone s&&laidKept H₀ s.heap),openSeen q loose (importedModules p.main.body) Xt g0 s,Yf s)
theorem Z2X{p q:Program} {loose:List Str} {Xt:Shared->Bool} {α:Type} {Yf:Shared->α} {Ya:World->α} {N:Nat} {g0:Bool} {T₀:Params->BT} {n₀:Nat} {life:Life} {ann:Option Value} {d₀:Drawn} {k₀:Nat} {M:Nat} {H₀:Params->Heap}
  (open_:∀w:World,(fencedOpening treeTable p w N).map (fun s=>(s.heap,s.gens,s.drawn,s.toks))=some (H₀ w.params,Array.mk [],d₀,k₀))
  (tree:∀P,absHeap (T₀ P) n₀ life=H₀ P)
  (size:∀w:World,((H₀ w.params).isNs mainGlobals,(H₀ w.params).nsMap mainGlobals "__annotations__")=(true,ann))
  (le:Nat.ble M N=true)
  (run:∀w:World,(fun os=>(segRunT treeTable p w n₀ ann 0 M ⟨T₀ w.params,n₀,life,Array.mk [],d₀,k₀,os⟩ (topStub p)).map fun r=>Z1l p q loose Xt Yf g0 (H₀ w.params) r.2.1.abs)=fun _=>some (true,openGood q loose,Ya w)) :
  LeftO p q loose Xt Yf Ya N g0:=fun w=>by
 obtain⟨⟨h,gs,d,k,os⟩,e,e'⟩:=Option.map_eq_some_iff.mp (open_ w)
 obtain⟨rfl,rfl,rfl,rfl⟩:h=H₀ w.params∧gs=Array.mk []∧d=d₀∧k=k₀:=by simpa using e'
 obtain⟨z1,z3⟩:_∧_:=by simpa only[Prod.mk.injEq] using size w
 obtain⟨⟨f,sT,c,pos⟩,r1,r2⟩:=Option.map_eq_some_iff.mp (congrFun (run w) os)
 obtain⟨l1,l2,l3⟩:_∧_∧_:=by simpa only[Z1l,Prod.mk.injEq] using r2
 have r0:=Z1b (segRun_of r1)
 have r:=topRun_mono (N-M) _ _ _ _ r0
 rw[show M+(N-M)=N by have:=Nat.le_of_ble_eq_true le;omega]at r
 have hz:(H₀ w.params).objs.size=n₀:=by rw[←tree,absHeap_size]
 have ea:(SharedT.mk (T₀ w.params) n₀ life (Array.mk []) d k os).abs=⟨H₀ w.params,Array.mk [],d,k,os⟩:=by
  show Shared.mk (absHeap (T₀ w.params) n₀ life) _ _ _ _=_
  rw[tree]
 rw[ea]at r
 have t:topFrom treeTable p w N ⟨H₀ w.params,Array.mk [],d,k,os⟩=some sT.abs:=by
  unfold topFrom
  dsimp only
  rw[z1,hz,z3,r]
  show(match staticsOk (importedModules p.main.body) (H₀ w.params) sT.abs.heap&&namesBound p sT.abs.heap&&gensDone sT.abs&&laidKept (H₀ w.params) sT.abs.heap with|true=>some sT.abs|false=>none)=_
  rw[l1]
 unfold openEnds
 rw[e]
 show(topFrom treeTable p w N _).map _=_
 rw[t]
 exact congrArg some (Prod.ext l2 l3)
noncomputable def nth:List Stmt->Nat->Stmt
 | [],_=>.Pass ⟨0,0,0,0⟩
 | a::_,0=>a
 | _::l,n+1=>nth l n
noncomputable def Z7:Stmt->List Stmt
 | .ClassDef _ _ _ b _ _ _ _ _ _ _=>b
 | _=>[]
noncomputable def fnO (s:Stmt) (q:Str) (m:Value) (c:Addr):Obj:=match s with
 | .FunctionDef n a b _ _ _ sc _ _ _=>⟨.type "function",none,.func { name:=n,qualname:=q,params:=a,body:=.stmts b,scope:=sc,globals:=3,closure:=[],defaults:=.none,kwdefaults:=.none,pyModule:=m,code:=.ref c },#[]⟩
 | _=>default
noncomputable def Z5J:Stmt->DefRec
 | .FunctionDef n a b _ _ _ sc _ _ pos=>⟨n,a,b,sc,pos⟩
 | _=>⟨Str.empty,⟨[],[],none,[],[],none,[]⟩,[],⟨.module,[],false,false,[]⟩,⟨0,0,0,0⟩⟩
abbrev sv(s:String) (t:Nat):Value:=.str (Str.ofString s) t
abbrev rv(a:Nat):Value:=.ref a
abbrev nv(i:Int) (t:Nat):Value:=.int i t
abbrev de(P:Params) (s:String) (t:Nat) (v:Value):DictEntry:=⟨PyData.keyHash P (Str.ofString s),.str (Str.ofString s) t,v⟩
abbrev ZC(es:List DictEntry) (n:Nat):Obj:=⟨.type "dict",none,.dict es.toArray n,#[]⟩
abbrev Z1(vs:List Value):Obj:=⟨.type "code",none,.fields vs.toArray,#[]⟩
noncomputable def mkT (l:List Obj):BT:=(l.foldl (fun(t,i) o=>(BT.ins t i o,i+1)) (BT.nil,0)).1
noncomputable def T0 (P:Params):BT:=mkT (boot_heap P).objs.toList
theorem Z5K(P:Params):absHeap (T0 P) 11 {}=boot_heap P:=by kernel_rfl
theorem Z3T:∀w:World,((boot_heap w.params).isNs mainGlobals,(boot_heap w.params).nsMap mainGlobals "__annotations__")=(true,some (.ref 6)):=fun w=>by kernel_rfl
set_option Elab.async false
set_option maxRecDepth 1000000
set_option maxHeartbeats 0
noncomputable def Z6h:List Nat:=[0,2,3,4,5,6,7,9,10,11,12,13,15,16,17,18,19,20,21,22,23,25,27,28,30,31,32,33,34,35,36,37,38,39,40]
noncomputable def KL:Params->Frag:=fun P=>
 (nat_lit 2,⟨.none,none,.dict [].toArray 0,#[]⟩) ::
 (nat_lit 3,(ZC [de P "__name__" 165 (sv "law_uf030038_09" 617),de P "__doc__" 166 .none,de P "__package__" 167 .none,de P "__loader__" 168 (.builtin "__main__.__loader__#opaque"),de P "__spec__" 169 .none,de P "__annotations__" 170 (rv 6),de P "__builtins__" 171 (rv 4),de P "__file__" 173 (sv "/claim/cut.py" 172),de P "__cached__" 174 .none,de P "_wall" 193 (rv 21),de P "LoomError" 213 (rv 31),de P "NoWord" 229 (rv 44),de P "NoHandler" 245 (rv 56),de P "Twice" 261 (rv 68),de P "Stranger" 277 (rv 80),de P "NoCount" 293 (rv 92),de P "SIGNS" 297 (sv "abcdefghijklmnopqrstuvwxyz" 296),de P "MOST_SIGNS" 299 (nv (12) 298),de P "is_whole" 306 (rv 101),de P "is_word" 312 (rv 106),de P "need_word" 319 (rv 113),de P "MOST_HANDLERS" 323 (nv (40) 322),de P "MOST_DEEDS" 325 (nv (30) 324),de P "MOST_TICKS" 327 (nv (1000000000) 326),de P "WITH_A_WORD" 333 (rv 114),de P "is_deed" 340 (rv 121),de P "is_handler" 346 (rv 126),de P "need_handlers" 358 (rv 133),de P "need_names" 364 (rv 138),de P "hearers" 370 (rv 143),de P "Waits" 438 (rv 191),de P "Frame" 472 (rv 212),de P "Loom" 616 (rv 320),de P "_law_told_at" 626 (rv 331),de P "_law_mixed" 636 (rv 338),de P "_law_word_by" 642 (rv 343),de P "_law_deed_by" 656 (rv 350),de P "_law_handlers_by" 662 (rv 355),de P "_law_first" 672 (rv 362),de P "_law_begins" 683 (rv 369),de P "_law_made" 697 (rv 376),de P "_law_cancelled" 703 (rv 381),de P "_law_walked" 714 (rv 388),de P "law" 720 (rv 393)] 44)) ::
 (nat_lit 20,(Z1 [(sv "_wall" 187),(sv "_wall" 188),(sv "/claim/cut.py" 189),(nv (1) 0),(nv (1) 0),(nv (0) 0),(nv (0) 0),(nv (3) 0),(rv 15),(.bool true),(nv (181) 0),(rv 16),.none,(rv 17),(rv 18),(rv 19),(nv (191) 0),(nv (1) 0),(sv "/claim/cut.py" 192)])) ::
 (nat_lit 21,(fnO (nth PySem.Challenge.pw_uf030038_09.main.body 0) (Str.ofString "_wall") (sv "__main__" 164) 20)) ::
 (nat_lit 30,(ZC [de P "__module__" 203 (sv "eventloom.errors" 194),de P "__firstlineno__" 207 (nv (5) 206),de P "__static_attributes__" 208 (rv 29),de P "__weakref__" 210 (rv 32),de P "__doc__" 211 .none] 3)) ::
 (nat_lit 31,⟨.type "type",none,.cls { name:=Str.ofString "LoomError",bases:=[(.type "ValueError")],mro:=[(rv 31),(.type "ValueError"),(.type "Exception"),(.type "BaseException"),(.type "object")],ns:=30,qualname:=Str.ofString "LoomError",hasDict:=true,slotNames:=[],subclasses:=[(rv 44),(rv 56),(rv 68),(rv 80),(rv 92)],abstract:=false,collection:=none,hasDel:=false },[some (rv 22),none,some (sv "LoomError" 196),some (sv "LoomError" 204),some (.builtin "ValueError.__new__"),some (.bool true)].toArray⟩) ::
 (nat_lit 32,⟨(.type "getset_descriptor"),none,.fields [(sv "__weakref__" 209),(rv 31),(.builtin "ExceptionGroup.__weakref__"),.none].toArray,#[]⟩) ::
 (nat_lit 43,(ZC [de P "__module__" 221 (sv "eventloom.errors" 194),de P "__firstlineno__" 225 (nv (7) 224),de P "__static_attributes__" 226 (rv 42),de P "__doc__" 227 .none] 2)) ::
 (nat_lit 44,⟨.type "type",none,.cls { name:=Str.ofString "NoWord",bases:=[(rv 31)],mro:=[(rv 44),(rv 31),(.type "ValueError"),(.type "Exception"),(.type "BaseException"),(.type "object")],ns:=43,qualname:=Str.ofString "NoWord",hasDict:=true,slotNames:=[],subclasses:=[],abstract:=false,collection:=none,hasDel:=false },[some (rv 35),none,some (sv "NoWord" 214),some (sv "NoWord" 222),some (.builtin "ValueError.__new__"),some (.bool true)].toArray⟩) ::
 (nat_lit 55,(ZC [de P "__module__" 237 (sv "eventloom.errors" 194),de P "__firstlineno__" 241 (nv (9) 240),de P "__static_attributes__" 242 (rv 54),de P "__doc__" 243 .none] 2)) ::
 (nat_lit 56,⟨.type "type",none,.cls { name:=Str.ofString "NoHandler",bases:=[(rv 31)],mro:=[(rv 56),(rv 31),(.type "ValueError"),(.type "Exception"),(.type "BaseException"),(.type "object")],ns:=55,qualname:=Str.ofString "NoHandler",hasDict:=true,slotNames:=[],subclasses:=[],abstract:=false,collection:=none,hasDel:=false },[some (rv 47),none,some (sv "NoHandler" 230),some (sv "NoHandler" 238),some (.builtin "ValueError.__new__"),some (.bool true)].toArray⟩) ::
 (nat_lit 67,(ZC [de P "__module__" 253 (sv "eventloom.errors" 194),de P "__firstlineno__" 257 (nv (11) 256),de P "__static_attributes__" 258 (rv 66),de P "__doc__" 259 .none] 2)) ::
 (nat_lit 68,⟨.type "type",none,.cls { name:=Str.ofString "Twice",bases:=[(rv 31)],mro:=[(rv 68),(rv 31),(.type "ValueError"),(.type "Exception"),(.type "BaseException"),(.type "object")],ns:=67,qualname:=Str.ofString "Twice",hasDict:=true,slotNames:=[],subclasses:=[],abstract:=false,collection:=none,hasDel:=false },[some (rv 59),none,some (sv "Twice" 246),some (sv "Twice" 254),some (.builtin "ValueError.__new__"),some (.bool true)].toArray⟩) ::
 (nat_lit 79,(ZC [de P "__module__" 269 (sv "eventloom.errors" 194),de P "__firstlineno__" 273 (nv (13) 272),de P "__static_attributes__" 274 (rv 78),de P "__doc__" 275 .none] 2)) ::
 (nat_lit 80,⟨.type "type",none,.cls { name:=Str.ofString "Stranger",bases:=[(rv 31)],mro:=[(rv 80),(rv 31),(.type "ValueError"),(.type "Exception"),(.type "BaseException"),(.type "object")],ns:=79,qualname:=Str.ofString "Stranger",hasDict:=true,slotNames:=[],subclasses:=[],abstract:=false,collection:=none,hasDel:=false },[some (rv 71),none,some (sv "Stranger" 262),some (sv "Stranger" 270),some (.builtin "ValueError.__new__"),some (.bool true)].toArray⟩) ::
 (nat_lit 91,(ZC [de P "__module__" 285 (sv "eventloom.errors" 194),de P "__firstlineno__" 289 (nv (15) 288),de P "__static_attributes__" 290 (rv 90),de P "__doc__" 291 .none] 2)) ::
 (nat_lit 92,⟨.type "type",none,.cls { name:=Str.ofString "NoCount",bases:=[(rv 31)],mro:=[(rv 92),(rv 31),(.type "ValueError"),(.type "Exception"),(.type "BaseException"),(.type "object")],ns:=91,qualname:=Str.ofString "NoCount",hasDict:=true,slotNames:=[],subclasses:=[],abstract:=false,collection:=none,hasDel:=false },[some (rv 83),none,some (sv "NoCount" 278),some (sv "NoCount" 286),some (.builtin "ValueError.__new__"),some (.bool true)].toArray⟩) ::
 (nat_lit 100,(Z1 [(sv "is_whole" 300),(sv "is_whole" 301),(sv "/claim/cut.py" 302),(nv (20) 0),(nv (1) 0),(nv (0) 0),(nv (0) 0),(nv (3) 0),(rv 95),(.bool true),(nv (181) 0),(rv 96),.none,(rv 97),(rv 98),(rv 99),(nv (304) 0),(nv (20) 0),(sv "/claim/cut.py" 305)])) ::
 (nat_lit 101,(fnO (nth PySem.Challenge.pw_uf030038_09.main.body 11) (Str.ofString "is_whole") (sv "eventloom.words" 294) 100)) ::
 (nat_lit 105,(Z1 [(sv "is_word" 307),(sv "is_word" 308),(sv "/claim/cut.py" 309),(nv (22) 0),(nv (1) 0),(nv (0) 0),(nv (0) 0),(nv (3) 0),(rv 102),(.bool true),(nv (181) 0),(rv 103),.none,.none,.none,(rv 104),(nv (310) 0),(nv (22) 0),(sv "/claim/cut.py" 311)])) ::
 (nat_lit 106,(fnO (nth PySem.Challenge.pw_uf030038_09.main.body 12) (Str.ofString "is_word") (sv "eventloom.words" 294) 105)) ::
 (nat_lit 112,(Z1 [(sv "need_word" 313),(sv "need_word" 314),(sv "/claim/cut.py" 315),(nv (26) 0),(nv (1) 0),(nv (0) 0),(nv (0) 0),(nv (3) 0),(rv 107),(.bool true),(nv (181) 0),(rv 108),.none,(rv 109),(rv 110),(rv 111),(nv (317) 0),(nv (26) 0),(sv "/claim/cut.py" 318)])) ::
 (nat_lit 113,(fnO (nth PySem.Challenge.pw_uf030038_09.main.body 13) (Str.ofString "need_word") (sv "eventloom.words" 294) 112)) ::
 (nat_lit 114,⟨(.type "tuple"),none,.seq [(sv "now" 328),(sv "soon" 329),(sv "cancel" 330),(sv "join" 331),(sv "leave" 332)].toArray 0,#[]⟩) ::
 (nat_lit 120,(Z1 [(sv "is_deed" 334),(sv "is_deed" 335),(sv "/claim/cut.py" 336),(nv (35) 0),(nv (1) 0),(nv (0) 0),(nv (0) 0),(nv (3) 0),(rv 115),(.bool true),(nv (181) 0),(rv 116),.none,(rv 117),(rv 118),(rv 119),(nv (338) 0),(nv (35) 0),(sv "/claim/cut.py" 339)])) ::
 (nat_lit 121,(fnO (nth PySem.Challenge.pw_uf030038_09.main.body 19) (Str.ofString "is_deed") (sv "eventloom.handlers" 320) 120)) ::
 (nat_lit 125,(Z1 [(sv "is_handler" 341),(sv "is_handler" 342),(sv "/claim/cut.py" 343),(nv (45) 0),(nv (1) 0),(nv (0) 0),(nv (0) 0),(nv (3) 0),(rv 122),(.bool true),(nv (181) 0),(rv 123),.none,.none,.none,(rv 124),(nv (344) 0),(nv (45) 0),(sv "/claim/cut.py" 345)])) ::
 (nat_lit 126,(fnO (nth PySem.Challenge.pw_uf030038_09.main.body 20) (Str.ofString "is_handler") (sv "eventloom.handlers" 320) 125)) ::
 (nat_lit 132,(Z1 [(sv "need_handlers" 347),(sv "need_handlers" 348),(sv "/claim/cut.py" 349),(nv (55) 0),(nv (1) 0),(nv (0) 0),(nv (0) 0),(nv (3) 0),(rv 127),(.bool true),(nv (181) 0),(rv 128),.none,(rv 129),(rv 130),(rv 131),(nv (356) 0),(nv (55) 0),(sv "/claim/cut.py" 357)])) ::
 (nat_lit 133,(fnO (nth PySem.Challenge.pw_uf030038_09.main.body 21) (Str.ofString "need_handlers") (sv "eventloom.handlers" 320) 132)) ::
 (nat_lit 137,(Z1 [(sv "need_names" 359),(sv "need_names" 360),(sv "/claim/cut.py" 361),(nv (70) 0),(nv (2) 0),(nv (0) 0),(nv (0) 0),(nv (3) 0),(rv 134),(.bool true),(nv (181) 0),(rv 135),.none,.none,.none,(rv 136),(nv (362) 0),(nv (70) 0),(sv "/claim/cut.py" 363)])) ::
 (nat_lit 138,(fnO (nth PySem.Challenge.pw_uf030038_09.main.body 22) (Str.ofString "need_names") (sv "eventloom.handlers" 320) 137)) ::
 (nat_lit 142,(Z1 [(sv "hearers" 365),(sv "hearers" 366),(sv "/claim/cut.py" 367),(nv (80) 0),(nv (3) 0),(nv (0) 0),(nv (0) 0),(nv (3) 0),(rv 139),(.bool true),(nv (181) 0),(rv 140),.none,.none,.none,(rv 141),(nv (368) 0),(nv (80) 0),(sv "/claim/cut.py" 369)])) ::
 (nat_lit 143,(fnO (nth PySem.Challenge.pw_uf030038_09.main.body 23) (Str.ofString "hearers") (sv "eventloom.handlers" 320) 142)) ::
 (nat_lit 156,(Z1 [(sv "__init__" 385),(sv "Waits.__init__" 386),(sv "/claim/cut.py" 387),(nv (89) 0),(nv (1) 0),(nv (0) 0),(nv (0) 0),(nv (3) 0),(rv 151),(.bool true),(nv (181) 0),(rv 152),.none,(rv 153),(rv 154),(rv 155),(nv (389) 0),(nv (89) 0),(sv "/claim/cut.py" 390)])) ::
 (nat_lit 157,(fnO (nth (Z7 (nth PySem.Challenge.pw_uf030038_09.main.body 25)) 0) (Str.ofString "Waits.__init__") (sv "eventloom.waits" 371) 156)) ::
 (nat_lit 163,(Z1 [(sv "sooner" 392),(sv "Waits.sooner" 393),(sv "/claim/cut.py" 394),(nv (93) 0),(nv (2) 0),(nv (0) 0),(nv (0) 0),(nv (3) 0),(rv 158),(.bool true),(nv (181) 0),(rv 159),.none,(rv 160),(rv 161),(rv 162),(nv (397) 0),(nv (93) 0),(sv "/claim/cut.py" 398)])) ::
 (nat_lit 164,(fnO (nth (Z7 (nth PySem.Challenge.pw_uf030038_09.main.body 25)) 1) (Str.ofString "Waits.sooner") (sv "eventloom.waits" 371) 163)) ::
 (nat_lit 170,(Z1 [(sv "later" 400),(sv "Waits.later" 401),(sv "/claim/cut.py" 402),(nv (96) 0),(nv (3) 0),(nv (0) 0),(nv (0) 0),(nv (3) 0),(rv 165),(.bool true),(nv (181) 0),(rv 166),.none,(rv 167),(rv 168),(rv 169),(nv (406) 0),(nv (96) 0),(sv "/claim/cut.py" 407)])) ::
 (nat_lit 171,(fnO (nth (Z7 (nth PySem.Challenge.pw_uf030038_09.main.body 25)) 2) (Str.ofString "Waits.later") (sv "eventloom.waits" 371) 170)) ::
 (nat_lit 175,(Z1 [(sv "lineup" 409),(sv "Waits.lineup" 410),(sv "/claim/cut.py" 411),(nv (99) 0),(nv (1) 0),(nv (0) 0),(nv (0) 0),(nv (3) 0),(rv 172),(.bool true),(nv (181) 0),(rv 173),.none,.none,.none,(rv 174),(nv (412) 0),(nv (99) 0),(sv "/claim/cut.py" 413)])) ::
 (nat_lit 176,(fnO (nth (Z7 (nth PySem.Challenge.pw_uf030038_09.main.body 25)) 3) (Str.ofString "Waits.lineup") (sv "eventloom.waits" 371) 175)) ::
 (nat_lit 182,(Z1 [(sv "lead" 415),(sv "Waits.lead" 416),(sv "/claim/cut.py" 417),(nv (102) 0),(nv (1) 0),(nv (0) 0),(nv (0) 0),(nv (3) 0),(rv 177),(.bool true),(nv (181) 0),(rv 178),.none,(rv 179),(rv 180),(rv 181),(nv (420) 0),(nv (102) 0),(sv "/claim/cut.py" 421)])) ::
 (nat_lit 183,(fnO (nth (Z7 (nth PySem.Challenge.pw_uf030038_09.main.body 25)) 4) (Str.ofString "Waits.lead") (sv "eventloom.waits" 371) 182)) ::
 (nat_lit 187,(Z1 [(sv "drop" 423),(sv "Waits.drop" 424),(sv "/claim/cut.py" 425),(nv (111) 0),(nv (2) 0),(nv (0) 0),(nv (0) 0),(nv (3) 0),(rv 184),(.bool true),(nv (181) 0),(rv 185),.none,.none,.none,(rv 186),(nv (426) 0),(nv (111) 0),(sv "/claim/cut.py" 427)])) ::
 (nat_lit 188,(fnO (nth (Z7 (nth PySem.Challenge.pw_uf030038_09.main.body 25)) 5) (Str.ofString "Waits.drop") (sv "eventloom.waits" 371) 187)) ::
 (nat_lit 190,(ZC [de P "__module__" 380 (sv "eventloom.waits" 371),de P "__firstlineno__" 384 (nv (87) 383),de P "__init__" 391 (rv 157),de P "sooner" 399 (rv 164),de P "later" 408 (rv 171),de P "lineup" 414 (rv 176),de P "lead" 422 (rv 183),de P "drop" 428 (rv 188),de P "__static_attributes__" 431 (rv 189),de P "__dict__" 433 (rv 192),de P "__weakref__" 435 (rv 193),de P "__doc__" 436 .none] 4)) ::
 (nat_lit 191,⟨.type "type",none,.cls { name:=Str.ofString "Waits",bases:=[(.type "object")],mro:=[(rv 191),(.type "object")],ns:=190,qualname:=Str.ofString "Waits",hasDict:=true,slotNames:=[],subclasses:=[],abstract:=false,collection:=none,hasDel:=false },[none,none,some (sv "Waits" 373),some (sv "Waits" 381),some (.builtin "object.__new__"),some (.bool true)].toArray⟩) ::
 (nat_lit 192,⟨(.type "getset_descriptor"),none,.fields [(sv "__dict__" 432),(rv 191),(.builtin "function.__dict__"),(.builtin "function.__dict__#set")].toArray,#[]⟩) ::
 (nat_lit 193,⟨(.type "getset_descriptor"),none,.fields [(sv "__weakref__" 434),(rv 191),(.builtin "ExceptionGroup.__weakref__"),.none].toArray,#[]⟩) ::
 (nat_lit 208,(Z1 [(sv "__init__" 453),(sv "Frame.__init__" 454),(sv "/claim/cut.py" 455),(nv (117) 0),(nv (3) 0),(nv (0) 0),(nv (0) 0),(nv (3) 0),(rv 203),(.bool true),(nv (181) 0),(rv 204),.none,(rv 205),(rv 206),(rv 207),(nv (459) 0),(nv (117) 0),(sv "/claim/cut.py" 460)])) ::
 (nat_lit 209,(fnO (nth (Z7 (nth PySem.Challenge.pw_uf030038_09.main.body 27)) 0) (Str.ofString "Frame.__init__") (sv "eventloom.loom" 439) 208)) ::
 (nat_lit 211,(ZC [de P "__module__" 448 (sv "eventloom.loom" 439),de P "__firstlineno__" 452 (nv (115) 451),de P "__init__" 461 (rv 209),de P "__static_attributes__" 465 (rv 210),de P "__dict__" 467 (rv 213),de P "__weakref__" 469 (rv 214),de P "__doc__" 470 .none] 4)) ::
 (nat_lit 212,⟨.type "type",none,.cls { name:=Str.ofString "Frame",bases:=[(.type "object")],mro:=[(rv 212),(.type "object")],ns:=211,qualname:=Str.ofString "Frame",hasDict:=true,slotNames:=[],subclasses:=[],abstract:=false,collection:=none,hasDel:=false },[none,none,some (sv "Frame" 441),some (sv "Frame" 449),some (.builtin "object.__new__"),some (.bool true)].toArray⟩) ::
 (nat_lit 213,⟨(.type "getset_descriptor"),none,.fields [(sv "__dict__" 466),(rv 212),(.builtin "function.__dict__"),(.builtin "function.__dict__#set")].toArray,#[]⟩) ::
 (nat_lit 214,⟨(.type "getset_descriptor"),none,.fields [(sv "__weakref__" 468),(rv 212),(.builtin "ExceptionGroup.__weakref__"),.none].toArray,#[]⟩) ::
 (nat_lit 229,(Z1 [(sv "__init__" 485),(sv "Loom.__init__" 486),(sv "/claim/cut.py" 487),(nv (123) 0),(nv (3) 0),(nv (0) 0),(nv (0) 0),(nv (3) 0),(rv 224),(.bool true),(nv (181) 0),(rv 225),.none,(rv 226),(rv 227),(rv 228),(nv (491) 0),(nv (123) 0),(sv "/claim/cut.py" 492)])) ::
 (nat_lit 230,(fnO (nth (Z7 (nth PySem.Challenge.pw_uf030038_09.main.body 28)) 0) (Str.ofString "Loom.__init__") (sv "eventloom.loom" 439) 229)) ::
 (nat_lit 236,(Z1 [(sv "send" 494),(sv "Loom.send" 495),(sv "/claim/cut.py" 496),(nv (133) 0),(nv (2) 0),(nv (0) 0),(nv (0) 0),(nv (3) 0),(rv 231),(.bool true),(nv (181) 0),(rv 232),.none,(rv 233),(rv 234),(rv 235),(nv (500) 0),(nv (133) 0),(sv "/claim/cut.py" 501)])) ::
 (nat_lit 237,(fnO (nth (Z7 (nth PySem.Challenge.pw_uf030038_09.main.body 28)) 1) (Str.ofString "Loom.send") (sv "eventloom.loom" 439) 236)) ::
 (nat_lit 243,(Z1 [(sv "step" 503),(sv "Loom.step" 504),(sv "/claim/cut.py" 505),(nv (140) 0),(nv (1) 0),(nv (0) 0),(nv (0) 0),(nv (3) 0),(rv 238),(.bool true),(nv (181) 0),(rv 239),.none,(rv 240),(rv 241),(rv 242),(nv (509) 0),(nv (140) 0),(sv "/claim/cut.py" 510)])) ::
 (nat_lit 244,(fnO (nth (Z7 (nth PySem.Challenge.pw_uf030038_09.main.body 28)) 2) (Str.ofString "Loom.step") (sv "eventloom.loom" 439) 243)) ::
 (nat_lit 250,(Z1 [(sv "begin" 512),(sv "Loom.begin" 513),(sv "/claim/cut.py" 514),(nv (157) 0),(nv (2) 0),(nv (0) 0),(nv (0) 0),(nv (3) 0),(rv 245),(.bool true),(nv (181) 0),(rv 246),.none,(rv 247),(rv 248),(rv 249),(nv (518) 0),(nv (157) 0),(sv "/claim/cut.py" 519)])) ::
 (nat_lit 251,(fnO (nth (Z7 (nth PySem.Challenge.pw_uf030038_09.main.body 28)) 3) (Str.ofString "Loom.begin") (sv "eventloom.loom" 439) 250)) ::
 (nat_lit 257,(Z1 [(sv "go_on" 521),(sv "Loom.go_on" 522),(sv "/claim/cut.py" 523),(nv (162) 0),(nv (2) 0),(nv (0) 0),(nv (0) 0),(nv (3) 0),(rv 252),(.bool true),(nv (181) 0),(rv 253),.none,(rv 254),(rv 255),(rv 256),(nv (526) 0),(nv (162) 0),(sv "/claim/cut.py" 527)])) ::
 (nat_lit 258,(fnO (nth (Z7 (nth PySem.Challenge.pw_uf030038_09.main.body 28)) 4) (Str.ofString "Loom.go_on") (sv "eventloom.loom" 439) 257)) ::
 (nat_lit 264,(Z1 [(sv "call_in" 529),(sv "Loom.call_in" 530),(sv "/claim/cut.py" 531),(nv (171) 0),(nv (3) 0),(nv (0) 0),(nv (0) 0),(nv (3) 0),(rv 259),(.bool true),(nv (181) 0),(rv 260),.none,(rv 261),(rv 262),(rv 263),(nv (536) 0),(nv (171) 0),(sv "/claim/cut.py" 537)])) ::
 (nat_lit 265,(fnO (nth (Z7 (nth PySem.Challenge.pw_uf030038_09.main.body 28)) 5) (Str.ofString "Loom.call_in") (sv "eventloom.loom" 439) 264)) ::
 (nat_lit 271,(Z1 [(sv "send_away" 539),(sv "Loom.send_away" 540),(sv "/claim/cut.py" 541),(nv (179) 0),(nv (2) 0),(nv (0) 0),(nv (0) 0),(nv (3) 0),(rv 266),(.bool true),(nv (181) 0),(rv 267),.none,(rv 268),(rv 269),(rv 270),(nv (545) 0),(nv (179) 0),(sv "/claim/cut.py" 546)])) ::
 (nat_lit 272,(fnO (nth (Z7 (nth PySem.Challenge.pw_uf030038_09.main.body 28)) 6) (Str.ofString "Loom.send_away") (sv "eventloom.loom" 439) 271)) ::
 (nat_lit 276,(Z1 [(sv "do_deed" 548),(sv "Loom.do_deed" 549),(sv "/claim/cut.py" 550),(nv (186) 0),(nv (3) 0),(nv (0) 0),(nv (0) 0),(nv (3) 0),(rv 273),(.bool true),(nv (181) 0),(rv 274),.none,.none,.none,(rv 275),(nv (551) 0),(nv (186) 0),(sv "/claim/cut.py" 552)])) ::
 (nat_lit 277,(fnO (nth (Z7 (nth PySem.Challenge.pw_uf030038_09.main.body 28)) 7) (Str.ofString "Loom.do_deed") (sv "eventloom.loom" 439) 276)) ::
 (nat_lit 283,(Z1 [(sv "make" 554),(sv "Loom.make" 555),(sv "/claim/cut.py" 556),(nv (204) 0),(nv (3) 0),(nv (0) 0),(nv (0) 0),(nv (3) 0),(rv 278),(.bool true),(nv (181) 0),(rv 279),.none,(rv 280),(rv 281),(rv 282),(nv (562) 0),(nv (204) 0),(sv "/claim/cut.py" 563)])) ::
 (nat_lit 284,(fnO (nth (Z7 (nth PySem.Challenge.pw_uf030038_09.main.body 28)) 8) (Str.ofString "Loom.make") (sv "eventloom.loom" 439) 283)) ::
 (nat_lit 290,(Z1 [(sv "run" 565),(sv "Loom.run" 566),(sv "/claim/cut.py" 567),(nv (218) 0),(nv (2) 0),(nv (0) 0),(nv (0) 0),(nv (3) 0),(rv 285),(.bool true),(nv (181) 0),(rv 286),.none,(rv 287),(rv 288),(rv 289),(nv (571) 0),(nv (218) 0),(sv "/claim/cut.py" 572)])) ::
 (nat_lit 291,(fnO (nth (Z7 (nth PySem.Challenge.pw_uf030038_09.main.body 28)) 9) (Str.ofString "Loom.run") (sv "eventloom.loom" 439) 290)) ::
 (nat_lit 297,(Z1 [(sv "waiting" 574),(sv "Loom.waiting" 575),(sv "/claim/cut.py" 576),(nv (226) 0),(nv (1) 0),(nv (0) 0),(nv (0) 0),(nv (3) 0),(rv 292),(.bool true),(nv (181) 0),(rv 293),.none,(rv 294),(rv 295),(rv 296),(nv (578) 0),(nv (226) 0),(sv "/claim/cut.py" 579)])) ::
 (nat_lit 298,(fnO (nth (Z7 (nth PySem.Challenge.pw_uf030038_09.main.body 28)) 10) (Str.ofString "Loom.waiting") (sv "eventloom.loom" 439) 297)) ::
 (nat_lit 302,(Z1 [(sv "around" 581),(sv "Loom.around" 582),(sv "/claim/cut.py" 583),(nv (229) 0),(nv (1) 0),(nv (0) 0),(nv (0) 0),(nv (3) 0),(rv 299),(.bool true),(nv (181) 0),(rv 300),.none,.none,.none,(rv 301),(nv (584) 0),(nv (229) 0),(sv "/claim/cut.py" 585)])) ::
 (nat_lit 303,(fnO (nth (Z7 (nth PySem.Challenge.pw_uf030038_09.main.body 28)) 11) (Str.ofString "Loom.around") (sv "eventloom.loom" 439) 302)) ::
 (nat_lit 309,(Z1 [(sv "standing" 587),(sv "Loom.standing" 588),(sv "/claim/cut.py" 589),(nv (232) 0),(nv (1) 0),(nv (0) 0),(nv (0) 0),(nv (3) 0),(rv 304),(.bool true),(nv (181) 0),(rv 305),.none,(rv 306),(rv 307),(rv 308),(nv (591) 0),(nv (232) 0),(sv "/claim/cut.py" 592)])) ::
 (nat_lit 310,(fnO (nth (Z7 (nth PySem.Challenge.pw_uf030038_09.main.body 28)) 12) (Str.ofString "Loom.standing") (sv "eventloom.loom" 439) 309)) ::
 (nat_lit 316,(Z1 [(sv "idle" 594),(sv "Loom.idle" 595),(sv "/claim/cut.py" 596),(nv (235) 0),(nv (1) 0),(nv (0) 0),(nv (0) 0),(nv (3) 0),(rv 311),(.bool true),(nv (181) 0),(rv 312),.none,(rv 313),(rv 314),(rv 315),(nv (598) 0),(nv (235) 0),(sv "/claim/cut.py" 599)])) ::
 (nat_lit 317,(fnO (nth (Z7 (nth PySem.Challenge.pw_uf030038_09.main.body 28)) 13) (Str.ofString "Loom.idle") (sv "eventloom.loom" 439) 316)) ::
 (nat_lit 319,(ZC [de P "__module__" 480 (sv "eventloom.loom" 439),de P "__firstlineno__" 484 (nv (121) 483),de P "__init__" 493 (rv 230),de P "send" 502 (rv 237),de P "step" 511 (rv 244),de P "begin" 520 (rv 251),de P "go_on" 528 (rv 258),de P "call_in" 538 (rv 265),de P "send_away" 547 (rv 272),de P "do_deed" 553 (rv 277),de P "make" 564 (rv 284),de P "run" 573 (rv 291),de P "waiting" 580 (rv 298),de P "around" 586 (rv 303),de P "standing" 593 (rv 310),de P "idle" 600 (rv 317),de P "__static_attributes__" 609 (rv 318),de P "__dict__" 611 (rv 321),de P "__weakref__" 613 (rv 322),de P "__doc__" 614 .none] 4)) ::
 (nat_lit 320,⟨.type "type",none,.cls { name:=Str.ofString "Loom",bases:=[(.type "object")],mro:=[(rv 320),(.type "object")],ns:=319,qualname:=Str.ofString "Loom",hasDict:=true,slotNames:=[],subclasses:=[],abstract:=false,collection:=none,hasDel:=false },[none,none,some (sv "Loom" 473),some (sv "Loom" 481),some (.builtin "object.__new__"),some (.bool true)].toArray⟩) ::
 (nat_lit 321,⟨(.type "getset_descriptor"),none,.fields [(sv "__dict__" 610),(rv 320),(.builtin "function.__dict__"),(.builtin "function.__dict__#set")].toArray,#[]⟩) ::
 (nat_lit 322,⟨(.type "getset_descriptor"),none,.fields [(sv "__weakref__" 612),(rv 320),(.builtin "ExceptionGroup.__weakref__"),.none].toArray,#[]⟩) ::
 (nat_lit 330,(Z1 [(sv "_law_told_at" 619),(sv "_law_told_at" 620),(sv "/claim/cut.py" 621),(nv (238) 0),(nv (2) 0),(nv (0) 0),(nv (0) 0),(nv (3) 0),(rv 325),(.bool true),(nv (181) 0),(rv 326),.none,(rv 327),(rv 328),(rv 329),(nv (624) 0),(nv (238) 0),(sv "/claim/cut.py" 625)])) ::
 (nat_lit 331,(fnO (nth PySem.Challenge.pw_uf030038_09.main.body 30) (Str.ofString "_law_told_at") (sv "law_uf030038_09" 617) 330)) ::
 (nat_lit 337,(Z1 [(sv "_law_mixed" 627),(sv "_law_mixed" 628),(sv "/claim/cut.py" 629),(nv (242) 0),(nv (3) 0),(nv (0) 0),(nv (0) 0),(nv (3) 0),(rv 332),(.bool true),(nv (181) 0),(rv 333),.none,(rv 334),(rv 335),(rv 336),(nv (634) 0),(nv (242) 0),(sv "/claim/cut.py" 635)])) ::
 (nat_lit 338,(fnO (nth PySem.Challenge.pw_uf030038_09.main.body 31) (Str.ofString "_law_mixed") (sv "law_uf030038_09" 617) 337)) ::
 (nat_lit 342,(Z1 [(sv "_law_word_by" 637),(sv "_law_word_by" 638),(sv "/claim/cut.py" 639),(nv (245) 0),(nv (2) 0),(nv (0) 0),(nv (0) 0),(nv (3) 0),(rv 339),(.bool true),(nv (181) 0),(rv 340),.none,.none,.none,(rv 341),(nv (640) 0),(nv (245) 0),(sv "/claim/cut.py" 641)])) ::
 (nat_lit 343,(fnO (nth PySem.Challenge.pw_uf030038_09.main.body 32) (Str.ofString "_law_word_by") (sv "law_uf030038_09" 617) 342)) ::
 (nat_lit 349,(Z1 [(sv "_law_deed_by" 643),(sv "_law_deed_by" 644),(sv "/claim/cut.py" 645),(nv (252) 0),(nv (4) 0),(nv (0) 0),(nv (0) 0),(nv (3) 0),(rv 344),(.bool true),(nv (181) 0),(rv 345),.none,(rv 346),(rv 347),(rv 348),(nv (654) 0),(nv (252) 0),(sv "/claim/cut.py" 655)])) ::
 (nat_lit 350,(fnO (nth PySem.Challenge.pw_uf030038_09.main.body 33) (Str.ofString "_law_deed_by") (sv "law_uf030038_09" 617) 349)) ::
 (nat_lit 354,(Z1 [(sv "_law_handlers_by" 657),(sv "_law_handlers_by" 658),(sv "/claim/cut.py" 659),(nv (261) 0),(nv (2) 0),(nv (0) 0),(nv (0) 0),(nv (3) 0),(rv 351),(.bool true),(nv (181) 0),(rv 352),.none,.none,.none,(rv 353),(nv (660) 0),(nv (261) 0),(sv "/claim/cut.py" 661)])) ::
 (nat_lit 355,(fnO (nth PySem.Challenge.pw_uf030038_09.main.body 34) (Str.ofString "_law_handlers_by") (sv "law_uf030038_09" 617) 354)) ::
 (nat_lit 361,(Z1 [(sv "_law_first" 663),(sv "_law_first" 664),(sv "/claim/cut.py" 665),(nv (275) 0),(nv (2) 0),(nv (0) 0),(nv (0) 0),(nv (3) 0),(rv 356),(.bool true),(nv (181) 0),(rv 357),.none,(rv 358),(rv 359),(rv 360),(nv (670) 0),(nv (275) 0),(sv "/claim/cut.py" 671)])) ::
 (nat_lit 362,(fnO (nth PySem.Challenge.pw_uf030038_09.main.body 35) (Str.ofString "_law_first") (sv "law_uf030038_09" 617) 361)) ::
 (nat_lit 368,(Z1 [(sv "_law_begins" 673),(sv "_law_begins" 674),(sv "/claim/cut.py" 675),(nv (283) 0),(nv (2) 0),(nv (0) 0),(nv (0) 0),(nv (3) 0),(rv 363),(.bool true),(nv (181) 0),(rv 364),.none,(rv 365),(rv 366),(rv 367),(nv (681) 0),(nv (283) 0),(sv "/claim/cut.py" 682)])) ::
 (nat_lit 369,(fnO (nth PySem.Challenge.pw_uf030038_09.main.body 36) (Str.ofString "_law_begins") (sv "law_uf030038_09" 617) 368)) ::
 (nat_lit 375,(Z1 [(sv "_law_made" 684),(sv "_law_made" 685),(sv "/claim/cut.py" 686),(nv (300) 0),(nv (4) 0),(nv (0) 0),(nv (0) 0),(nv (3) 0),(rv 370),(.bool true),(nv (181) 0),(rv 371),.none,(rv 372),(rv 373),(rv 374),(nv (695) 0),(nv (300) 0),(sv "/claim/cut.py" 696)])) ::
 (nat_lit 376,(fnO (nth PySem.Challenge.pw_uf030038_09.main.body 37) (Str.ofString "_law_made") (sv "law_uf030038_09" 617) 375)) ::
 (nat_lit 380,(Z1 [(sv "_law_cancelled" 698),(sv "_law_cancelled" 699),(sv "/claim/cut.py" 700),(nv (313) 0),(nv (3) 0),(nv (0) 0),(nv (0) 0),(nv (3) 0),(rv 377),(.bool true),(nv (181) 0),(rv 378),.none,.none,.none,(rv 379),(nv (701) 0),(nv (313) 0),(sv "/claim/cut.py" 702)])) ::
 (nat_lit 381,(fnO (nth PySem.Challenge.pw_uf030038_09.main.body 38) (Str.ofString "_law_cancelled") (sv "law_uf030038_09" 617) 380)) ::
 (nat_lit 387,(Z1 [(sv "_law_walked" 704),(sv "_law_walked" 705),(sv "/claim/cut.py" 706),(nv (326) 0),(nv (2) 0),(nv (0) 0),(nv (0) 0),(nv (3) 0),(rv 382),(.bool true),(nv (181) 0),(rv 383),.none,(rv 384),(rv 385),(rv 386),(nv (712) 0),(nv (326) 0),(sv "/claim/cut.py" 713)])) ::
 (nat_lit 388,(fnO (nth PySem.Challenge.pw_uf030038_09.main.body 39) (Str.ofString "_law_walked") (sv "law_uf030038_09" 617) 387)) ::
 (nat_lit 392,(Z1 [(sv "law" 715),(sv "law" 716),(sv "/claim/cut.py" 717),(nv (344) 0),(nv (1) 0),(nv (0) 0),(nv (0) 0),(nv (3) 0),(rv 389),(.bool true),(nv (181) 0),(rv 390),.none,.none,.none,(rv 391),(nv (718) 0),(nv (344) 0),(sv "/claim/cut.py" 719)])) ::
 (nat_lit 393,(fnO (nth PySem.Challenge.pw_uf030038_09.main.body 40) (Str.ofString "law") (sv "law_uf030038_09" 617) 392))::[]
noncomputable def asL:List Addr:=[2,3,20,21,30,31,32,43,44,55,56,67,68,79,80,91,92,100,101,105,106,112,113,114,120,121,125,126,132,133,137,138,142,143,156,157,163,164,170,171,175,176,182,183,187,188,190,191,192,193,208,209,211,212,213,214,229,230,236,237,243,244,250,251,257,258,264,265,271,272,276,277,283,284,290,291,297,298,302,303,309,310,316,317,319,320,321,322,330,331,337,338,342,343,349,350,354,355,361,362,368,369,375,376,380,381,387,388,392,393]
theorem Z5L:∀P,asL=(KL P).map (·.1):=fun _=>by kernel_rfl
noncomputable abbrev HL:Hook:=kmHook KL asL Z5L [140]
noncomputable abbrev qL:Program:=view PySem.Challenge.pw_uf030038_09 Z6h
noncomputable abbrev XtL:Shared->Bool:=fun s=>xlAt qL [] s&&recOk [] s
theorem Z6i(h:PySem.Challenge.rw_uf030038_09.row.wellSaid=true->PySem.Challenge.rw_uf030038_09.row.Holds):PySem.Challenge.rw_uf030038_09.Holds:=by
 refine holds_law (by kernel_rfl) fun said=>?_
 exact h said
theorem runL:∀w:World,(fun os=>(segRunT treeTable PySem.Challenge.pw_uf030038_09 w 11 (some (.ref 6)) 0 3233 ⟨T0 w.params,11,{},Array.mk [],boot_drawn,boot_toks,os⟩ (topStub PySem.Challenge.pw_uf030038_09)).map fun r=>Z1l PySem.Challenge.pw_uf030038_09 qL [] XtL (Hook.obs HL) true (boot_heap w.params) r.2.1.abs)=fun _=>some (true,openGood qL [],Hook.val HL w):=by
 intro w
 unfold Z1l
 show _=fun _=>some (true,openGood qL [],((KL w.params).map fun p=>some p.2,[140].map fun _=>some (tabObj #[])))
 unfold XtL qL
 rw[PySem.W.Fast.te10110043849684766642,PySem.W.Fast.te14364793385576792824,PySem.W.Fast.te4187177175401517315,PySem.W.Fast.te5923862056798008813]
 kernel_rfl
theorem Z6j:LeftO PySem.Challenge.pw_uf030038_09 qL [] XtL (Hook.obs HL) (Hook.val HL) 6526:=
 Z2X (T₀:=T0) (n₀:=11) (life:={}) (ann:=some (.ref 6)) (M:=3233) (H₀:=boot_heap) (boot_open (by kernel_rfl) rfl fun _=>by kernel_rfl) Z5K Z3T rfl runL
noncomputable abbrev dL:DefRec:=Z5J (nth PySem.Challenge.pw_uf030038_09.main.body 40)
theorem defL:defOf qL (Str.ofString "law")=some (dL,[]):=by
 unfold qL dL
 kernel_rfl
theorem theL:PySem.Challenge.pw_uf030038_09.theDef (Str.ofString "law")=some (dL.params,dL.body,dL.scope):=by
 unfold dL
 kernel_rfl
theorem okL:(chainsOk qL&&opensWell PySem.Challenge.pw_uf030038_09&&(frees PySem.Challenge.rw_uf030038_09.row.toRowW&&PySem.Challenge.rw_uf030038_09.row.within.isEmpty))=true:=by
 show(chainsOk qL&&opensWell PySem.Challenge.pw_uf030038_09&&(frees PySem.Challenge.rw_uf030038_09.row.toRowW&&true))=true
 unfold qL
 kernel_rfl
theorem Z6k:PySem.Challenge.pw_uf030038_09.bare:=⟨rfl,rfl,rfl,rfl,rfl,by decide +kernel⟩
theorem hd(call:WalkO qL [] (XL qL []) (Hook.says HL) PySem.Challenge.rw_uf030038_09.row.toRowW dL [] (fun f vs=>PySem.call f vs)):PySem.Challenge.rw_uf030038_09.Holds:=
 Z6i fun said=>holds_open (r:=PySem.Challenge.rw_uf030038_09.row) (q:=qL) (loose:=[]) (Xt:=XtL) (XP:=XL qL []) (Yf:=Hook.obs HL) (Ya:=Hook.val HL) (YP:=Hook.says HL) (N:=6526) Z6j (Hook.of HL) (Hook.keeps HL) (fun s e=>xl_of s (Bool.and_eq_true_iff.mp e).1) XL.keeps defL theL rfl (fun s e=>recFacts_of (Bool.and_eq_true_iff.mp e).2) rfl said okL Z6k (by w_witness2) call
end Mine
set_option linter.unusedVariables false
namespace Mine
noncomputable section
noncomputable def nthN:List Nat->Nat->Nat
 | [],_=>0
 | x::_,0=>x
 | _::l,i+1=>nthN l i
noncomputable def nthI:List Int->Nat->Int
 | [],_=>0
 | x::_,0=>x
 | _::l,i+1=>nthI l i
inductive LT where
 | v (i:Nat)|k (n:Nat)|a (x y:LT)|s (x y:LT)|m (n:Nat) (x:LT)|g (x:LT)|c (x:LT)|mx (x y:LT)|mn (x y:LT)
inductive LF where
 | le (b:Bool) (x y:LT)|lt (b:Bool) (x y:LT)|eq (b:Bool) (x y:LT)|no (p:LF)|an (p q:LF)|or (p q:LF)|im (p q:LF)|ff
noncomputable def LT.N (nc:List Nat):LT->Nat
 | .v i=>nthN nc i
 | .k n=>n
 | .a x y=>x.N nc+y.N nc
 | .s x y=>x.N nc-y.N nc
 | .m n x=>n*x.N nc
 | .g _=>0
 | .c x=>x.N nc
 | .mx x y=>max (x.N nc) (y.N nc)
 | .mn x y=>min (x.N nc) (y.N nc)
noncomputable def LT.Z (nc:List Nat) (ic:List Int):LT->Int
 | .v i=>nthI ic i
 | .k n=>(n:Int)
 | .a x y=>x.Z nc ic+y.Z nc ic
 | .s x y=>x.Z nc ic-y.Z nc ic
 | .m n x=>(n:Int)*x.Z nc ic
 | .g x=>-(x.Z nc ic)
 | .c x=>(x.N nc:Int)
 | .mx x y=>max (x.Z nc ic) (y.Z nc ic)
 | .mn x y=>min (x.Z nc ic) (y.Z nc ic)
noncomputable def LT.V (nc:List Nat) (ic:List Int) (x:LT):Bool->Int
 | true=>(x.N nc:Int)
 | false=>x.Z nc ic
noncomputable def LF.D (nc:List Nat) (ic:List Int):LF->Prop
 | .le b x y=>match b with
  | true=>x.N nc≤y.N nc
  | false=>x.Z nc ic≤y.Z nc ic
 | .lt b x y=>match b with
  | true=>x.N nc<y.N nc
  | false=>x.Z nc ic<y.Z nc ic
 | .eq b x y=>match b with
  | true=>x.N nc=y.N nc
  | false=>x.Z nc ic=y.Z nc ic
 | .no p=>¬p.D nc ic
 | .an p q=>p.D nc ic∧q.D nc ic
 | .or p q=>p.D nc ic∨q.D nc ic
 | .im p q=>p.D nc ic->q.D nc ic
 | .ff=>False
noncomputable def dot:List Int->List Int->Int
 | c::cs,x::xs=>c*x+dot cs xs
 | _,_=>0
noncomputable def vad:List Int->List Int->List Int
 | x::xs,y::ys=>(x+y)::vad xs ys
 | [],ys=>ys
 | xs,[]=>xs
noncomputable def vsc (c:Int) (v:List Int):List Int:=v.map (c*·)
noncomputable def vun (c:Int):Nat->List Int
 | 0=>[c]
 | i+1=>0::vun c i
theorem Z35(v:List Int):dot v []=0:=by cases v<;>rfl
theorem Zw:∀(v u l:List Int),dot (vad v u) l=dot v l+dot u l
 | [],u,l=>by simp[vad,dot]
 | x::v,[],l=>by simp[vad,dot]
 | x::v,y::u,[]=>rfl
 | x::v,y::u,z::l=>by simp only[vad,dot,Zw v u l,Int.add_mul];(first|lia|omega)
theorem ZU(c:Int):∀(v l:List Int),dot (vsc c v) l=c*dot v l
 | [],l=>by simp[vsc,dot]
 | x::v,[]=>by simp[vsc,dot]
 | x::v,z::l=>by
  have:=ZU c v l
  unfold vsc at this ⊢
  simp only[List.map_cons,dot,this,Int.mul_add,Int.mul_assoc]
theorem ZV(c:Int):∀(i:Nat) (l:List Int),dot (vun c i) l=c*nthI l i
 | _,[]=>by rw[Z35];simp[nthI]
 | 0,x::l=>by simp[vun,dot,nthI]
 | i+1,x::l=>by simp only[vun,dot,nthI,ZV c i l];(first|lia|omega)
noncomputable def Hold (l:List Int) (d:List (List Int)):Prop:=∀v∈d,0≤dot v l
theorem Hold.app{l:List Int} {d e:List (List Int)} (h:Hold l d) (k:Hold l e):Hold l (d++e):=fun v hv=>(List.mem_append.mp hv).elim (h v) (k v)
noncomputable def hdI (v:List Int):Int:=v.headD 0
noncomputable def pair (d:List (List Int)) (p:List Int):List (List Int):=(d.filter fun n=>hdI n<0).map fun n=>vad (vsc (-(hdI n)) p.tail) (vsc (hdI p) n.tail)
noncomputable def fewer (d:List (List Int)):List (List Int):=(d.filter fun v=>hdI v==0).map List.tail++(d.filter fun v=>0<hdI v).flatMap (pair d)
noncomputable def Z3z:Nat->List (List Int)->Bool
 | 0,d=>d.any fun v=>hdI v<0
 | n+1,d=>Z3z n (fewer d)
theorem Z2t(v:List Int) (x:Int) (l:List Int):dot v (x::l)=hdI v*x+dot v.tail l:=by
 cases v with
 | nil=>simp[dot,hdI]
 | cons c v=>rfl
theorem Hold.fewer{x:Int} {l:List Int} {d:List (List Int)} (h:Hold (x::l) d):Hold l (fewer d):=by
 intro v hv
 rcases List.mem_append.mp hv with hv|hv
 ·obtain⟨u,hu,rfl⟩:=List.mem_map.mp hv
  obtain⟨h1,h2⟩:=List.mem_filter.mp hu
  have:=h u h1
  rw[Z2t,eq_of_beq h2]at this
  (first|lia|omega)
 ·obtain⟨p,hp,hv⟩:=List.mem_flatMap.mp hv
  obtain⟨n,hn,rfl⟩:=List.mem_map.mp hv
  obtain⟨p1,p2⟩:=List.mem_filter.mp hp
  obtain⟨n1,n2⟩:=List.mem_filter.mp hn
  have hp:=h p p1
  have hn:=h n n1
  rw[Z2t]at hp hn
  rw[Zw,ZU,ZU]
  have p2:=of_decide_eq_true p2
  have n2:=of_decide_eq_true n2
  have a1:=Int.mul_nonneg (a:=-(hdI n)) (by(first|lia|omega)) hp
  have a2:=Int.mul_nonneg (a:=hdI p) (by(first|lia|omega)) hn
  have e1:-(hdI n)*(hdI p*x+dot p.tail l)=-(hdI p*(hdI n*x))+-(hdI n)*dot p.tail l:=by
   rw[Int.mul_add,Int.neg_mul,←Int.mul_assoc,Int.mul_comm (hdI n) (hdI p),Int.mul_assoc]
  rw[e1]at a1
  rw[Int.mul_add]at a2
  (first|lia|omega)
theorem Z2u:∀(l:List Int) (d:List (List Int)),Z3z l.length d=true->¬Hold (l++[1]) d
 | [],d,h,H=>by
  obtain⟨v,hv,hn⟩:=List.any_eq_true.mp h
  have:=H v hv
  rw[List.nil_append,Z2t,Z35]at this
  have:=of_decide_eq_true hn
  (first|lia|omega)
 | x::l,d,h,H=>Z2u l (fewer d) h (Hold.fewer (x:=x) (l:=l++[1]) H)
abbrev Cs:=List (List Int×List (List Int))
noncomputable def both (f:List Int->List Int->Cs) (p q:Cs):Cs:=p.flatMap fun a=>q.flatMap fun b=>(f a.1 b.1).map fun c=>(c.1,c.2++(a.2++b.2))
noncomputable def vsb (x y:List Int):List Int:=vad x (vsc (-1) y)
noncomputable def LT.cs (N T:Nat) (b:Bool):LT->Cs
 | .v i=>[(bif b then(bif Nat.blt i N then vun 1 i else []) else(bif Nat.blt (N+i) T then vun 1 (N+i) else []),[])]
 | .k n=>[(vun n T,[])]
 | .a x y=>both (fun u v=>[(vad u v,[])]) (x.cs N T b) (y.cs N T b)
 | .s x y=>both (fun u v=>bif b then [(vsb u v,[vsb u v]),([],[vsb v u])] else [(vsb u v,[])]) (x.cs N T b) (y.cs N T b)
 | .m n x=>(x.cs N T b).map fun p=>(vsc n p.1,p.2)
 | .g x=>bif b then [([],[])] else(x.cs N T b).map fun p=>(vsc (-1) p.1,p.2)
 | .c x=>x.cs N T true
 | .mx x y=>both (fun u v=>[(u,[vsb u v]),(v,[vsb v u])]) (x.cs N T b) (y.cs N T b)
 | .mn x y=>both (fun u v=>[(v,[vsb u v]),(u,[vsb v u])]) (x.cs N T b) (y.cs N T b)
noncomputable def Is (l:List Int) (p:Cs) (z:Int):Prop:=∃q∈p,dot q.1 l=z∧Hold l q.2
theorem Is.both{l:List Int} {f:List Int->List Int->Cs} {p q:Cs} {x y z:Int} (hp:Is l p x) (hq:Is l q y) (h:∀u v,dot u l=x->dot v l=y->Is l (f u v) z):Is l (Mine.both f p q) z:=by
 obtain⟨a,ha,e1,h1⟩:=hp
 obtain⟨b,hb,e2,h2⟩:=hq
 obtain⟨c,hc,e3,h3⟩:=h a.1 b.1 e1 e2
 exact⟨(c.1,c.2++(a.2++b.2)),List.mem_flatMap.mpr ⟨a,ha,List.mem_flatMap.mpr ⟨b,hb,List.mem_map.mpr ⟨c,hc,rfl⟩⟩⟩,e3,h3.app (h1.app h2)⟩
theorem Is.one{l v:List Int} {z:Int} (h:dot v l=z):Is l [(v,[])] z:=⟨_,.head _,h,fun _ h=>nomatch h⟩
theorem Is.l{l u v w:List Int} {p:Cs} {z:Int} (h:dot v l=z) (hw:0≤dot w l):Is l ((v,[w])::p) z:=⟨_,.head _,h,fun x hx=>by rw[List.mem_singleton.mp hx];exact hw⟩
theorem Is.r{l:List Int} {a:List Int×List (List Int)} {v w:List Int} {z:Int} (h:dot v l=z) (hw:0≤dot w l):Is l [a,(v,[w])] z:=⟨_,.tail _ (.head _),h,fun x hx=>by rw[List.mem_singleton.mp hx];exact hw⟩
theorem Is.map{l:List Int} {p:Cs} {x:Int} (c:Int) (hp:Is l p x):Is l (p.map fun q=>(vsc c q.1,q.2)) (c*x):=by
 obtain⟨a,ha,e1,h1⟩:=hp
 exact⟨_,List.mem_map.mpr ⟨a,ha,rfl⟩,by rw[ZU,e1],h1⟩
theorem Za(v u l:List Int):dot (vsb v u) l=dot v l-dot u l:=by
 unfold vsb
 rw[Zw,ZU];(first|lia|omega)
noncomputable def ctx (nc:List Nat) (ic:List Int):List Int:=nc.map Int.ofNat++ic
theorem ZW(nc:List Nat) (ic:List Int):(ctx nc ic).length=nc.length+ic.length:=by simp[ctx]
theorem ZJ:∀(l r:List Int) (i:Nat),i<l.length->nthI (l++r) i=nthI l i
 | x::l,r,0,_=>rfl
 | x::l,r,i+1,h=>ZJ l r i (Nat.lt_of_succ_lt_succ h)
theorem Z1A:∀(l r:List Int) (i:Nat),nthI (l++r) (l.length+i)=nthI r i
 | [],r,i=>by simp
 | x::l,r,i=>by
  rw[List.length_cons,Nat.add_right_comm]
  exact Z1A l r i
theorem Z22:∀(l:List Nat) (i:Nat),nthI (l.map Int.ofNat) i=nthN l i
 | [],_=>rfl
 | x::l,0=>rfl
 | x::l,i+1=>Z22 l i
theorem Z2v:∀(l:List Nat) (i:Nat),¬i<l.length->nthN l i=0
 | [],_,_=>rfl
 | x::l,0,h=>absurd (Nat.succ_pos _) h
 | x::l,i+1,h=>Z2v l i fun q=>h (Nat.succ_lt_succ q)
theorem Z2w:∀(l:List Int) (i:Nat),¬i<l.length->nthI l i=0
 | [],_,_=>rfl
 | x::l,0,h=>absurd (Nat.succ_pos _) h
 | x::l,i+1,h=>Z2w l i fun q=>h (Nat.succ_lt_succ q)
section
variable {nc:List Nat} {ic:List Int}
theorem Zy(n:Int):dot (vun n (nc.length+ic.length)) (ctx nc ic++[1])=n:=by
 have:=Z1A (ctx nc ic) [1] 0
 rw[ZW,Nat.add_zero]at this
 rw[ZV,this]
 exact Int.mul_one n
theorem LT.ok(t:LT):∀b,Is (ctx nc ic++[1]) (t.cs nc.length (nc.length+ic.length) b) (t.V nc ic b):=by
 induction t with
 | v i=>
  intro b
  refine Is.one ?_
  cases b with
  | true=>
   show dot (bif Nat.blt i nc.length then vun 1 i else []) _=((nthN nc i:Nat):Int)
   by_cases h:i<nc.length
   ·rw[Nat.blt_eq.mpr h,cond_true,ZV,Int.one_mul,ZJ _ _ _ (by rw[ZW];exact Nat.lt_of_lt_of_le h (Nat.le_add_right _ _)),ctx,ZJ _ _ _ (by rw[List.length_map];exact h),Z22]
   ·rw[Bool.eq_false_iff.mpr (fun q=>h (Nat.blt_eq.mp q)),cond_false,Z2v nc i h];rfl
  | false=>
   show dot (bif Nat.blt (nc.length+i) (nc.length+ic.length) then vun 1 (nc.length+i) else []) _=nthI ic i
   by_cases h:i<ic.length
   ·have:=Z1A (nc.map Int.ofNat) ic i
    rw[List.length_map]at this
    have h':=Nat.add_lt_add_left h nc.length
    rw[Nat.blt_eq.mpr h',cond_true,ZV,Int.one_mul,ZJ _ _ _ (by rw[ZW];exact h'),ctx,this]
   ·rw[Bool.eq_false_iff.mpr (fun q=>h (Nat.lt_of_add_lt_add_left (Nat.blt_eq.mp q))),cond_false,Z2w ic i h];rfl
 | k n=>
  intro b
  cases b
  ·exact Is.one (Zy _)
  ·exact Is.one (Zy _)
 | a x y hx hy=>
  intro b
  refine(hx b).both (hy b) fun u v e1 e2=>Is.one (by rw[Zw,e1,e2];cases b<;>rfl)
 | s x y hx hy=>
  intro b
  refine(hx b).both (hy b) fun u v e1 e2=>?_
  cases b with
  | true=>
   by_cases h:y.N nc≤x.N nc
   ·exact Is.l (u:=[]) (by rw[Za,e1,e2];exact(Int.ofNat_sub h).symm) (by rw[Za,e1,e2];exact Int.sub_nonneg_of_le (Int.ofNat_le.mpr h))
   ·exact Is.r (by show(0:Int)=((x.N nc-y.N nc:Nat):Int);rw[Nat.sub_eq_zero_of_le (Nat.le_of_not_le h)];rfl) (by rw[Za,e1,e2];exact Int.sub_nonneg_of_le (Int.ofNat_le.mpr (Nat.le_of_not_le h)))
  | false=>exact Is.one (by rw[Za,e1,e2];rfl)
 | m n x hx=>
  intro b
  have:=(hx b).map n
  cases b with
  | true=>
   show Is _ _ ((n*x.N nc:Nat):Int)
   rw[Int.natCast_mul];exact this
  | false=>exact this
 | g x hx=>
  intro b
  cases b with
  | true=>exact Is.one rfl
  | false=>
   have:=(hx false).map (-1)
   rw[Int.neg_one_mul]at this;exact this
 | c x hx=>
  intro b
  cases b with
  | true=>exact hx true
  | false=>exact hx true
 | mx x y hx hy=>
  intro b
  refine(hx b).both (hy b) fun u v e1 e2=>?_
  have e:(LT.mx x y).V nc ic b=max (x.V nc ic b) (y.V nc ic b):=by
   cases b with
   | true=>show((max (x.N nc) (y.N nc):Nat):Int)=max (x.N nc:Int) (y.N nc:Int);(first|lia|omega)
   | false=>rfl
  rw[e]
  by_cases h:y.V nc ic b≤x.V nc ic b
  ·exact Is.l (u:=[]) (by rw[e1,Int.max_eq_left h]) (by rw[Za,e1,e2];exact Int.sub_nonneg_of_le h)
  ·have h:=Int.le_of_lt (Int.not_le.mp h)
   exact Is.r (by rw[e2,Int.max_eq_right h]) (by rw[Za,e1,e2];exact Int.sub_nonneg_of_le h)
 | mn x y hx hy=>
  intro b
  refine(hx b).both (hy b) fun u v e1 e2=>?_
  have e:(LT.mn x y).V nc ic b=min (x.V nc ic b) (y.V nc ic b):=by
   cases b with
   | true=>show((min (x.N nc) (y.N nc):Nat):Int)=min (x.N nc:Int) (y.N nc:Int);(first|lia|omega)
   | false=>rfl
  rw[e]
  by_cases h:y.V nc ic b≤x.V nc ic b
  ·exact Is.l (u:=[]) (by rw[e2,Int.min_eq_right h]) (by rw[Za,e1,e2];exact Int.sub_nonneg_of_le h)
  ·have h:=Int.le_of_lt (Int.not_le.mp h)
   exact Is.r (by rw[e1,Int.min_eq_left h]) (by rw[Za,e1,e2];exact Int.sub_nonneg_of_le h)
end
noncomputable def prod (p q:List (List (List Int))):List (List (List Int)):=p.flatMap fun a=>q.map fun b=>a++b
noncomputable def rel (f:List Int->List Int->List (List (List Int))) (p q:Cs):List (List (List Int)):=p.flatMap fun a=>q.flatMap fun b=>(f a.1 b.1).map fun c=>c++(a.2++b.2)
noncomputable def LF.cs (N T:Nat):LF->Bool->List (List (List Int))
 | .le c x y,b=>rel (fun u v=>bif b then [[vsb v u]] else [[vad (vsb u v) (vun (-1) T)]]) (x.cs N T c) (y.cs N T c)
 | .lt c x y,b=>rel (fun u v=>bif b then [[vad (vsb v u) (vun (-1) T)]] else [[vsb u v]]) (x.cs N T c) (y.cs N T c)
 | .eq c x y,b=>rel (fun u v=>bif b then [[vsb u v,vsb v u]] else [[vad (vsb u v) (vun (-1) T)],[vad (vsb v u) (vun (-1) T)]]) (x.cs N T c) (y.cs N T c)
 | .no p,b=>p.cs N T (!b)
 | .an p q,b=>bif b then prod (p.cs N T b) (q.cs N T b) else p.cs N T b++q.cs N T b
 | .or p q,b=>bif b then p.cs N T b++q.cs N T b else prod (p.cs N T b) (q.cs N T b)
 | .im p q,b=>bif b then p.cs N T (!b)++q.cs N T b else prod (p.cs N T (!b)) (q.cs N T b)
 | .ff,b=>bif b then [] else [[]]
noncomputable def Some (l:List Int) (p:List (List (List Int))):Prop:=∃d∈p,Hold l d
theorem Some.rel{l:List Int} {f:List Int->List Int->List (List (List Int))} {p q:Cs} {x y:Int} (hp:Is l p x) (hq:Is l q y) (h:∀u v,dot u l=x->dot v l=y->Some l (f u v)):Some l (Mine.rel f p q):=by
 obtain⟨a,ha,e1,h1⟩:=hp
 obtain⟨b,hb,e2,h2⟩:=hq
 obtain⟨c,hc,h3⟩:=h a.1 b.1 e1 e2
 exact⟨c++(a.2++b.2),List.mem_flatMap.mpr ⟨a,ha,List.mem_flatMap.mpr ⟨b,hb,List.mem_map.mpr ⟨c,hc,rfl⟩⟩⟩,h3.app (h1.app h2)⟩
theorem Some.prod{l:List Int} {p q:List (List (List Int))} (hp:Some l p) (hq:Some l q):Some l (Mine.prod p q):=by
 obtain⟨a,ha,h1⟩:=hp
 obtain⟨b,hb,h2⟩:=hq
 exact⟨a++b,List.mem_flatMap.mpr ⟨a,ha,List.mem_map.mpr ⟨b,hb,rfl⟩⟩,h1.app h2⟩
theorem Some.l{l:List Int} {p q:List (List (List Int))} (h:Some l p):Some l (p++q):=let ⟨a,b,c⟩:=h;⟨a,List.mem_append_left _ b,c⟩
theorem Some.r{l:List Int} {p q:List (List (List Int))} (h:Some l q):Some l (p++q):=let ⟨a,b,c⟩:=h;⟨a,List.mem_append_right _ b,c⟩
theorem Some.one{l v:List Int} {p:List (List (List Int))} (h:0≤dot v l):Some l ([v]::p):=⟨_,.head _,fun x hx=>by rw[List.mem_singleton.mp hx];exact h⟩
theorem Some.two{l v u:List Int} (h:0≤dot v l) (k:0≤dot u l):Some l [[v,u]]:=⟨_,.head _,fun x hx=>by
 rcases List.mem_cons.mp hx with rfl|hx
 ·exact h
 ·rw[List.mem_singleton.mp hx];exact k⟩
section
variable {nc:List Nat} {ic:List Int}
theorem Z1J{x y:Int} (h:y<x):0≤x-y+-1:=by(first|lia|omega)
theorem Z36{l:List Int} {p q:Cs} {x y:Int} (hp:Is l p x) (hq:Is l q y) (h:x≤y):Some l (rel (fun u v=>[[vsb v u]]) p q):=
 Some.rel hp hq fun u v e1 e2=>Some.one (by rw[Za,e1,e2];exact Int.sub_nonneg_of_le h)
theorem Z37{l:List Int} {p q:Cs} {x y:Int} (hp:Is l p x) (hq:Is l q y) (h:y≤x):Some l (rel (fun u v=>[[vsb u v]]) p q):=
 Some.rel hp hq fun u v e1 e2=>Some.one (by rw[Za,e1,e2];exact Int.sub_nonneg_of_le h)
theorem Z38{p q:Cs} {x y:Int} (hp:Is (ctx nc ic++[1]) p x) (hq:Is (ctx nc ic++[1]) q y) (h:y<x):Some (ctx nc ic++[1]) (rel (fun u v=>[[vad (vsb u v) (vun (-1) (nc.length+ic.length))]]) p q):=
 Some.rel hp hq fun u v e1 e2=>Some.one (by rw[Zw,Zy,Za,e1,e2];exact Z1J h)
theorem Z39{p q:Cs} {x y:Int} (hp:Is (ctx nc ic++[1]) p x) (hq:Is (ctx nc ic++[1]) q y) (h:x<y):Some (ctx nc ic++[1]) (rel (fun u v=>[[vad (vsb v u) (vun (-1) (nc.length+ic.length))]]) p q):=
 Some.rel hp hq fun u v e1 e2=>Some.one (by rw[Zw,Zy,Za,e1,e2];exact Z1J h)
theorem Z3a{l:List Int} {p q:Cs} {x y:Int} (hp:Is l p x) (hq:Is l q y) (h:x=y):Some l (rel (fun u v=>[[vsb u v,vsb v u]]) p q):=
 Some.rel hp hq fun u v e1 e2=>Some.two (by rw[Za,e1,e2,h,Int.sub_self];exact Int.le_refl 0) (by rw[Za,e1,e2,h,Int.sub_self];exact Int.le_refl 0)
theorem Z3b{p q:Cs} {x y:Int} (hp:Is (ctx nc ic++[1]) p x) (hq:Is (ctx nc ic++[1]) q y) (h:¬x=y):Some (ctx nc ic++[1]) (rel (fun u v=>[[vad (vsb u v) (vun (-1) (nc.length+ic.length))],[vad (vsb v u) (vun (-1) (nc.length+ic.length))]]) p q):=
 Some.rel hp hq fun u v e1 e2=>by
  by_cases k:y<x
  ·exact Some.one (by rw[Zw,Zy,Za,e1,e2];exact Z1J k)
  ·obtain⟨d,hd,hh⟩:=Some.one (l:=ctx nc ic++[1]) (p:=[]) (v:=vad (vsb v u) (vun (-1) (nc.length+ic.length))) (by rw[Zw,Zy,Za,e1,e2];exact Z1J (Int.lt_iff_le_and_ne.mpr ⟨Int.not_lt.mp k,h⟩))
   exact⟨d,.tail _ hd,hh⟩
theorem LF.cs_ok(f:LF):(f.D nc ic->Some (ctx nc ic++[1]) (f.cs nc.length (nc.length+ic.length) true))∧(¬f.D nc ic->Some (ctx nc ic++[1]) (f.cs nc.length (nc.length+ic.length) false)):=by
 induction f with
 | le b x y=>
  cases b with
  | true=>exact⟨fun h=>Z36 (x.ok true) (y.ok true) (Int.ofNat_le.mpr h),fun h=>Z38 (x.ok true) (y.ok true) (Int.ofNat_lt.mpr (Nat.lt_of_not_le h))⟩
  | false=>exact⟨fun h=>Z36 (x.ok false) (y.ok false) h,fun h=>Z38 (x.ok false) (y.ok false) (Int.lt_of_not_ge h)⟩
 | lt b x y=>
  cases b with
  | true=>exact⟨fun h=>Z39 (x.ok true) (y.ok true) (Int.ofNat_lt.mpr h),fun h=>Z37 (x.ok true) (y.ok true) (Int.ofNat_le.mpr (Nat.le_of_not_lt h))⟩
  | false=>exact⟨fun h=>Z39 (x.ok false) (y.ok false) h,fun h=>Z37 (x.ok false) (y.ok false) (Int.not_lt.mp h)⟩
 | eq b x y=>
  cases b with
  | true=>exact⟨fun h=>Z3a (x.ok true) (y.ok true) (congrArg _ h),fun h=>Z3b (x.ok true) (y.ok true) fun q=>h (Int.ofNat_inj.mp q)⟩
  | false=>exact⟨fun h=>Z3a (x.ok false) (y.ok false) h,fun h=>Z3b (x.ok false) (y.ok false) h⟩
 | no p ih=>exact⟨ih.2,fun h=>ih.1 (Classical.not_not.mp h)⟩
 | an p q hp hq=>exact⟨fun h=>(hp.1 h.1).prod (hq.1 h.2),fun h=>(Classical.not_and_iff_not_or_not.mp h).elim (fun z=>(hp.2 z).l) fun z=>(hq.2 z).r⟩
 | or p q hp hq=>exact⟨fun h=>h.elim (fun z=>(hp.1 z).l) fun z=>(hq.1 z).r,fun h=>(hp.2 fun z=>h (.inl z)).prod (hq.2 fun z=>h (.inr z))⟩
 | im p q hp hq=>exact⟨fun h=>(Classical.em (p.D nc ic)).elim (fun z=>(hq.1 (h z)).r) fun z=>(hp.2 z).l,fun h=>(hp.1 (Classical.byContradiction fun z=>h fun w=>absurd w z)).prod (hq.2 fun z=>h fun _=>z)⟩
 | ff=>exact⟨fun h=>h.elim,fun _=>⟨_,.head _,fun _ h=>nomatch h⟩⟩
noncomputable def LF.valid (N T:Nat) (f:LF):Bool:=(f.cs N T false).all fun d=>Z3z T (d++(List.range N).map (vun 1))
theorem lin(f:LF) (nc:List Nat) (ic:List Int) (h:f.valid nc.length (nc.length+ic.length)=true):f.D nc ic:=by
 refine Classical.byContradiction fun k=>?_
 obtain⟨d,hd,hh⟩:=f.cs_ok.2 k
 have hu:=List.all_eq_true.mp h d hd
 rw[←ZW nc ic]at hu
 refine Z2u (ctx nc ic) _ hu (hh.app fun v hv=>?_)
 obtain⟨i,hi,rfl⟩:=List.mem_map.mp hv
 have hi:=List.mem_range.mp hi
 rw[ZV,Int.one_mul,ZJ _ _ _ (by rw[ZW];exact Nat.lt_of_lt_of_le hi (Nat.le_add_right _ _)),ctx,ZJ _ _ _ (by rw[List.length_map];exact hi),Z22]
 exact Int.natCast_nonneg _
end
end
noncomputable section
def pT:Nat->Nat->(LT->Nat->LF)->LF
 | 0,_,_=>.ff
 | f+1,n,k=>cond (Nat.blt (Nat.mod n 32) 22) (k (.v (Nat.mod n 32)) (Nat.div n 32)) <| cond (Nat.beq (Nat.mod n 32) 22) (pT f (Nat.div n 32) fun x r=>pT f r fun y r=>k (.a x y) r) <| cond (Nat.beq (Nat.mod n 32) 23) (pT f (Nat.div n 32) fun x r=>pT f r fun y r=>k (.s x y) r) <| cond (Nat.beq (Nat.mod n 32) 24) (k (.k (Nat.mod (Nat.div n 32) 32)) (Nat.div n 1024)) <| cond (Nat.beq (Nat.mod n 32) 25) (k (.k (Nat.mod (Nat.div n 32) 1099511627776)) (Nat.div n 35184372088832)) <| cond (Nat.beq (Nat.mod n 32) 26) (pT f (Nat.div n 1024) fun x r=>k (.m (Nat.mod (Nat.div n 32) 32) x) r) <| cond (Nat.beq (Nat.mod n 32) 27) (pT f (Nat.div n 32) fun x r=>k (.g x) r) <| cond (Nat.beq (Nat.mod n 32) 28) (pT f (Nat.div n 32) fun x r=>k (.c x) r) <| cond (Nat.beq (Nat.mod n 32) 29) (pT f (Nat.div n 32) fun x r=>pT f r fun y r=>k (.mx x y) r) (pT f (Nat.div n 32) fun x r=>pT f r fun y r=>k (.mn x y) r)
def pF:Nat->Nat->(LF->Nat->LF)->LF
 | 0,_,_=>.ff
 | f+1,n,k=>cond (Nat.beq (Nat.mod n 32) 9) (pF f (Nat.div n 32) fun x r=>pF f r fun y r=>k (.im x y) r) <| cond (Nat.blt (Nat.mod n 32) 6) (pT f (Nat.div n 32) fun x r=>pT f r fun y r=>k (cond (Nat.beq (Nat.mod n 32) 0) (.le true x y) <| cond (Nat.beq (Nat.mod n 32) 1) (.lt true x y) <| cond (Nat.beq (Nat.mod n 32) 2) (.eq true x y) <| cond (Nat.beq (Nat.mod n 32) 3) (.le false x y) <| cond (Nat.beq (Nat.mod n 32) 4) (.lt false x y) (.eq false x y)) r) <| cond (Nat.beq (Nat.mod n 32) 6) (pF f (Nat.div n 32) fun x r=>k (.no x) r) <| cond (Nat.beq (Nat.mod n 32) 7) (pF f (Nat.div n 32) fun x r=>pF f r fun y r=>k (.an x y) r) <| cond (Nat.beq (Nat.mod n 32) 8) (pF f (Nat.div n 32) fun x r=>pF f r fun y r=>k (.or x y) r) (k .ff (Nat.div n 32))
def lF(n:Nat):LF:=pF 40 n fun f _=>f
abbrev nD(n:Nat)(nc:List Nat):Prop:=(lF n).D nc []
abbrev iD(n:Nat)(ic:List Int):Prop:=(lF n).D [] ic
abbrev mD(n:Nat)(nc:List Nat)(ic:List Int):Prop:=(lF n).D nc ic
end
theorem ln(n:Nat)(nc:List Nat)(h:(lF n).valid nc.length (nc.length+0)=true:=by kernel_rfl!):nD n nc:=lin _ nc [] h
theorem li(n:Nat)(ic:List Int)(h:(lF n).valid 0 (0+ic.length)=true:=by kernel_rfl!):iD n ic:=lin _ [] ic h
theorem lm(n:Nat)(nc:List Nat)(ic:List Int)(h:(lF n).valid nc.length (nc.length+ic.length)=true:=by kernel_rfl!):mD n nc ic:=lin _ nc ic h
theorem Y0{a b c d e:Nat}:nD 0x3825877006e020ee015c0900401100e20842001d09 [a,b,c,d,e]:=ln _ _
theorem Y1{a b c d e:Nat}:nD 0x1c12c3b8701b0ae020ee015c0900401100e20842001d09 [a,b,c,d,e]:=ln _ _
theorem Y2{a b c d e:Nat}:nD 0x703b0ae1c1036b02e018ae105c09 [a,b,c,d,e]:=ln _ _
theorem Y3{a b c d e:Nat}:nD 0x704b0ee200ad701077106e048300108203883700509 [a,b,c,d,e]:=ln _ _
theorem Y4{a b c d:Nat}:nD 0x600dc01c0ec015c0900401100e20842001d09 [a,b,c,d]:=ln _ _
theorem Y5{a b c d:Nat}:nD 0x30e03615c01c0ec015c0900401100e20842001d09 [a,b,c,d]:=ln _ _
theorem Y6{a b c d:Nat}:a+min b (c-a)≤d->d<c->c-a≤b->1≤0:=lin (.im (.le true (.a (.v 0) (.mn (.v 1) (.s (.v 2) (.v 0)))) (.v 3)) (.im (.lt true (.v 3) (.v 2)) (.im (.le true (.s (.v 2) (.v 0)) (.v 1)) (.le true (.k 1) (.k 0))))) [a,b,c,d] [] (by kernel_rfl!)
theorem Y7{a b c:Nat}:a<b+1-min c (b+1)->b+1≤c->1≤0:=lin (.im (.lt true (.v 0) (.s (.a (.v 1) (.k 1)) (.mn (.v 2) (.a (.v 1) (.k 1))))) (.im (.le true (.a (.v 1) (.k 1)) (.v 2)) (.le true (.k 1) (.k 0)))) [a,b,c] [] (by kernel_rfl!)
theorem Y8{a b c d:Int}:iD 0x10c60094e0091031102029c20220c9 [a,b,c,d]:=li _ _
theorem Y9{a b c d:Int}:iD 0x10c80094e00910618861014e101109 [a,b,c,d]:=li _ _
theorem mid(a b:Nat):(a≤(a+b) / 2∧(a+b) / 2<b)∨(b≤(a+b) / 2∧(a+b) / 2≤a):=
 (Nat.lt_or_ge a b).elim (fun h=>.inl ⟨(Nat.le_div_iff_mul_le (by decide)).mpr (Nat.mul_two a▸Nat.add_le_add_left (Nat.le_of_lt h) a),Nat.div_lt_of_lt_mul (Nat.two_mul b▸Nat.add_lt_add_right h b)⟩)
  fun h=>.inr ⟨(Nat.le_div_iff_mul_le (by decide)).mpr (Nat.mul_two b▸Nat.add_le_add_right h b),Nat.div_le_of_le_mul (Nat.two_mul a▸Nat.add_le_add_left h a)⟩
theorem mid2(a b:Nat):(b-a) / 2<b-a∨(b≤a∧(b-a) / 2=0):=
 (Nat.lt_or_ge a b).elim (fun h=>.inl (Nat.div_lt_self (Nat.sub_pos_of_lt h) (by decide))) fun h=>.inr ⟨h,by rw[Nat.sub_eq_zero_of_le h]⟩
theorem Ze(t:Nat):t / 2+t / 2≤t:=by(first|lia|omega)
theorem Zf(t:Nat):t≤t / 2+t / 2+1:=by(first|lia|omega)
theorem Yb{a b c d:Nat}:nD 0x860b04230a44105809 [a,b,c,d]:=ln _ _
theorem Yc{a b c d:Nat}:nD 0x41c0c16b84230a44105809 [a,b,c,d]:=ln _ _
theorem Yd{a b:Nat}:nD 0x40008029 [a,b]:=ln _ _
theorem Ye{a b:Nat}:nD 0x10e001001200e009 [a,b]:=ln _ _
theorem Yg{a b:Int}:iD 0x461010c9 [a,b]:=li _ _
theorem Yh{a b c d:Nat}:nD 0x860b00230244105809 [a,b,c,d]:=ln _ _
theorem Yi{a b c d:Nat}:nD 0xc160842001c60b08291040908009 [a,b,c,d]:=ln _ _
theorem Yj{a b c d:Nat}:nD 0xc161044001c60b08291040908009 [a,b,c,d]:=ln _ _
theorem Yk{a b c:Nat}:nD 0x1c08360daf708041b0029 [a,b,c]:=ln _ _
theorem Yl{a b c d:Nat}:nD 0xe062b0ad7b843818ac2b5ee008009 [a,b,c,d]:=ln _ _
theorem Ym{a b c d:Nat}:nD 0x182c10e060b02d7b8460b082908009 [a,b,c,d]:=ln _ _
theorem Yn{a:Nat}:nD 0x700c58000e009 [a]:=ln _ _
theorem Yo{a b c:Nat}:nD 0x38082d710820b082910700c5820b5c09 [a,b,c]:=ln _ _
theorem Yp{a b c d:Nat}:nD 0x860b00230a44105809 [a,b,c,d]:=ln _ _
theorem Yq{a b:Nat}:nD 0x4380043805809 [a,b]:=ln _ _
theorem Yr{a b:Int}:iD 0x40308089 [a,b]:=li _ _
theorem Ys{a b c:Nat}:nD 0x1c02c115ae20043805809 [a,b,c]:=ln _ _
theorem Yt{a:Nat}:nD 0x3805838062c0 [a]:=ln _ _
theorem Yu{a b c:Nat}:nD 0x701c06c0b5c420e0360584148838062c1c06c0b5c09 [a,b,c]:=ln _ _
theorem Yv{a b:Int}:iD 0x10140121921010c9 [a,b]:=li _ _
theorem Yw{a b:Int}:iD 0x403080a9 [a,b]:=li _ _
theorem Yx{a b:Nat}:nD 0x701b0701c02d60043805809 [a,b]:=ln _ _
theorem Yy{a b c d:Nat}:nD 0xc3815820b5c030e03815ac1c06c0b5c09 [a,b,c,d]:=ln _ _
theorem Yz{a b c:Nat}:nD 0x20d801106c011921c0ac1b0029 [a,b,c]:=ln _ _
theorem YA{a:Nat}:nD 0x700b0700 [a]:=ln _ _
theorem YB{a b c:Nat}:nD 0x40084380244105809 [a,b,c]:=ln _ _
theorem YC{a b c d:Nat}:nD 0x838182d708462324230244105809 [a,b,c,d]:=ln _ _
theorem YD{a b c:Nat}:nD 0x38106d700041b0029 [a,b,c]:=ln _ _
theorem YE{a b c:Nat}:nD 0x106c1c0836b8441b0029 [a,b,c]:=ln _ _
theorem YF{a b c:Int}:iD 0x88a110d2200d21010c9 [a,b,c]:=li _ _
theorem YG{a b:Nat}:nD 0x43805801008c908009 [a,b]:=ln _ _
theorem YH{a:Nat}:nD 0xe0000e029 [a]:=ln _ _
theorem YI{a b c d:Nat}:nD 0xc5600462b042908009 [a,b,c,d]:=ln _ _
theorem YJ{a b c:Nat}:nD 0x8001040908009 [a,b,c]:=ln _ _
theorem YK{a:Nat}:nD 0x70010038099200e009 [a]:=ln _ _
theorem YL{a:Nat}:nD 0x1c071600038119200e009 [a]:=ln _ _
theorem YM{a:Nat}:nD 768 [a]:=ln _ _
theorem YN{a:Nat}:nD 0xc02e0c02e0 [a]:=ln _ _
theorem YO{a b:Nat}:nD 0x4020040908009 [a,b]:=ln _ _
theorem YQ{a b c d e f g:Nat}:nD 0x4605823281252012118522082c04870635ac525809292c635809 [a,b,c,d,e,f,g]:=ln _ _
theorem YR:∀{a b c d e f:Nat},a+b≤c->d<b->e≤f->f≤d->a+(e+f) / 2<c:=fun h0 h1 h2 h3=>YQ (Ze _) (Zf _) h0 h1 h2 h3
theorem YS{a b c:Nat}:nD 0x800004064870215ac105809082c215809 [a,b,c]:=ln _ _
theorem YT:∀{a b:Nat},¬a≥b->a≤(a+b) / 2:=fun h0=>YS (Ze _) (Zf _) h0
theorem YU{a b c d:Nat}:nD 0x430082048400487031dac105809082c31d809 [a,b,c,d]:=ln _ _
theorem YV:∀{a b c:Nat},a≤b->b≤c->(a+b) / 2≤c:=fun h0 h1=>YU (Ze _) (Zf _) h0 h1
theorem YW:∀{a b c d:Nat},a-b≤c-d->(b+a) / 2-b≤c-(d+1):=fun{a b _ _} h=>Y0 (mid b a) h
theorem YX{a b c d:Nat}:nD 0x182c0007031dac20d809106c31d809 [a,b,c,d]:=ln _ _
theorem YY:∀{a b c:Nat},a≤a+(b+c) / 2:=YX (Ze _) (Zf _)
theorem YZ{a b c d e:Nat}:nD 0x43b1076008804870425ac105809082c425809 [a,b,c,d,e]:=ln _ _
theorem Y10:∀{a b c d:Nat},(a+b) / 2≤c->d+(a+b) / 2≤d+c:=fun h0=>YZ (Ze _) (Zf _) h0
theorem Y11{a b c:Nat}:nD 0x45600ac108029 [a,b,c]:=ln _ _
theorem Y12{a b c:Int}:iD 0x8031046908089 [a,b,c]:=li _ _
theorem Y13{a b c:Nat}:nD 0x21c0ac0004064870215ac105809082c215809 [a,b,c]:=ln _ _
theorem Y14:∀{a b:Nat},¬a≥b->(a+b) / 2+1≤b:=fun h0=>Y13 (Ze _) (Zf _) h0
theorem Y15{a b:Nat}:nD 0x40008009 [a,b]:=ln _ _
theorem Y16:∀{a b c d:Nat},a-b≤c-d->a-((b+a) / 2+1)≤c-(d+1):=fun{a b _ _} h=>Y1 (mid b a) h
theorem Y17{a b:Nat}:nD 1071104 [a,b]:=ln _ _
theorem Y18{a b c d e:Nat}:nD 0x41d803b0038258014870425ac20d809106c425809 [a,b,c,d,e]:=ln _ _
theorem Y19:∀{a b c d:Nat},a<(b+c) / 2+1->d+a≤d+(b+c) / 2:=fun h0=>Y18 (Ze _) (Zf _) h0
theorem Y1a{a b c d e:Nat}:nD 0x47620ec110006484004870425ac01580900ac425809 [a,b,c,d,e]:=ln _ _
theorem Y1b:∀{a b c d:Nat},a≤b->¬c≥a->d+(c+a) / 2<d+b:=fun h0 h1=>Y1a (Ze _) (Zf _) h0 h1
theorem Y1c{a b c:Int}:iD 0x86110d21010c9 [a,b,c]:=li _ _
theorem Y1d{a b c:Nat}:a≤b->b-a≤c-max 0 c->a=b:=lin (.im (.le true (.v 0) (.v 1)) (.im (.le true (.s (.v 1) (.v 0)) (.s (.v 2) (.mx (.k 0) (.v 2)))) (.eq true (.v 0) (.v 1)))) [a,b,c] [] (by kernel_rfl!)
theorem Y1e{a b c:Nat}:nD 0x105840b0416b82c0 [a,b,c]:=ln _ _
theorem Y1f{a b c:Nat}:nD 0x416102c105ae0 [a,b,c]:=ln _ _
theorem Y1g{a b:Nat}:nD 0x370582208009 [a,b]:=ln _ _
theorem Y1h{a b c:Nat}:nD 0x15c161084105809 [a,b,c]:=ln _ _
theorem Y1i{a b c:Nat}:nD 0x8ac01584608029 [a,b,c]:=ln _ _
theorem Y1j{a b c d:Nat}:nD 0x18ac01580015822b04e608029 [a,b,c,d]:=ln _ _
theorem Y1k{a b c:Nat}:nD 0x816082c0102c105809 [a,b,c]:=ln _ _
theorem Y1l{a b c d:Nat}:nD 0x47610ec10082908009 [a,b,c,d]:=ln _ _
theorem Y1m{a b c:Nat}:nD 0x45600ac208049 [a,b,c]:=ln _ _
theorem Y1n{a b c:Nat}:nD 0xac11584608029 [a,b,c]:=ln _ _
theorem Y1o{a b c d:Nat}:nD 0x40b041600416182c13846148702b02c105829 [a,b,c,d]:=ln _ _
theorem Y1p{a b c d:Nat}:nD 0x3810ed700ec01042908029 [a,b,c,d]:=ln _ _
theorem Y1q{a b c d e:Nat}:nD 0x11583818ad70808148701b0ac31582908009 [a,b,c,d,e]:=ln _ _
theorem Y1r{a b c d:Nat} {e f:Int}:mD 0x4031882918449102c105809 [a,b,c,d] [e,f]:=lm _ _ _
theorem Y1s{a b:Nat}:nD 0x380dc0008029 [a,b]:=ln _ _
theorem Y1t{a b c d:Nat}:nD 0x20e0370846148702b02c105829 [a,b,c,d]:=ln _ _
theorem Y1u{a b c d e:Nat}:nD 0x40b0c1600c16202c138c8148416182c048702b02c105829 [a,b,c,d,e]:=ln _ _
theorem Y1v{a b c d:Nat}:nD 0x182c20584608c29102c105809 [a,b,c,d]:=ln _ _
theorem Y1w{a b c d e:Nat}:nD 0x40b041600416202c138c8148416182c048702b02c105829 [a,b,c,d,e]:=ln _ _
theorem Y1x{a b c:Nat}:nD 0xe022b5c4008029 [a,b,c]:=ln _ _
theorem Y1y{a b c:Nat}:nD 0x1c0816b870105ae0102c105809 [a,b,c]:=ln _ _
theorem Y1z{a b c d e:Nat}:nD 0x205838082d708c8148416182c048702b02c105829 [a,b,c,d,e]:=ln _ _
theorem Y1A{a b c:Nat}:nD 0x6037102e008009 [a,b,c]:=ln _ _
theorem Y1B{a b c d:Nat}:nD 0x118ac11000648400487031dac205c09102e31d809 [a,b,c,d]:=ln _ _
theorem Y1C:∀{a b c:Nat},a≤b->¬c≥a->c+(a-c) / 2<b:=fun h0 h1=>Y1B (Ze _) (Zf _) h0 h1
theorem Y1D{a b c:Nat}:nD 0x870205ac0004064870215ac00dc09006e215809 [a,b,c]:=ln _ _
theorem Y1E:∀{a b:Nat},¬a≥b->a+(b-a) / 2+1≤b:=fun h0=>Y1D (Ze _) (Zf _) h0
theorem Y1F:∀{a b c d:Nat},a-b≤c-d->a-(b+(a-b) / 2+1)≤c-(d+1):=fun h=>Y2 h
theorem Y1G{a b c d:Nat}:nD 0x30d8000e061b5801487031dac115c0908ae31d809 [a,b,c,d]:=ln _ _
theorem Y1H:∀{a b c:Nat},a<b+(c-b) / 2+1->a≤b+(c-b) / 2:=fun h0=>Y1G (Ze _) (Zf _) h0
theorem Y1I{a b c:Nat}:nD 0x102c00070215ac00dc09006e215809 [a,b,c]:=ln _ _
theorem Y1J:∀{a b:Nat},a≤a+(b-a) / 2:=Y1I (Ze _) (Zf _)
theorem Y1K{a b c d:Nat}:nD 0x118ac01000648400487031dac205c09102e31d809 [a,b,c,d]:=ln _ _
theorem Y1L:∀{a b c:Nat},a≤b->¬c≥a->c+(a-c) / 2≤b:=fun h0 h1=>Y1K (Ze _) (Zf _) h0 h1
theorem Y1M:∀{a b c d:Nat},a-b≤c-d->b+(a-b) / 2-b≤c-(d+1):=fun{a b _ _} h=>Y3 (mid2 b a) h
theorem Y1N:nD 1835777 []:=ln _ _
theorem Y1O{a b:Nat}:nD 0x1b830108029 [a,b]:=ln _ _
theorem Y1P:nD 0xe038062c0 []:=ln _ _
theorem Y1Q{a b c:Nat}:nD 0x805608041b80c9 [a,b,c]:=ln _ _
theorem Y1R{a:Nat}:nD 0xe002d5801 [a]:=ln _ _
theorem Y1S{a b c:Nat}:nD 0x106e008041b80c9 [a,b,c]:=ln _ _
theorem Y1T{a b:Nat}:nD 0x1c045ab0701c02d60043805809 [a,b]:=ln _ _
theorem Y1U{a b c:Nat}:max 0 a+1≤b->a-c≤b:=lin (.im (.le true (.a (.mx (.k 0) (.v 0)) (.k 1)) (.v 1)) (.le true (.s (.v 0) (.v 2)) (.v 1))) [a,b,c] [] (by kernel_rfl!)
theorem Y1V{a b c d:Nat}:a<b->a<c-d->d+a+1≤d+min b (c-d):=lin (.im (.lt true (.v 0) (.v 1)) (.im (.lt true (.v 0) (.s (.v 2) (.v 3))) (.le true (.a (.a (.v 3) (.v 0)) (.k 1)) (.a (.v 3) (.mn (.v 1) (.s (.v 2) (.v 3))))))) [a,b,c,d] [] (by kernel_rfl!)
theorem Y1W{a b c d:Nat}:a<b-c->c+min d (b-c)≤b:=lin (.im (.lt true (.v 0) (.s (.v 1) (.v 2))) (.le true (.a (.v 2) (.mn (.v 3) (.s (.v 1) (.v 2)))) (.v 1))) [a,b,c,d] [] (by kernel_rfl!)
theorem Y1X{a b c:Nat}:nD 0x41b0001c0836b0029 [a,b,c]:=ln _ _
theorem Y1Y{a b c:Nat}:nD 0x402b0441b8029 [a,b,c]:=ln _ _
theorem Y1Z:∀{a b c d:Nat} {e:Prop},a+min b (c-a)≤d->d<c->c-a≤b->e:=fun a b c=>absurd (show 1≤0 from Y6 a b c) (by decide)
theorem Y20{a b c d:Nat}:a+min b (c-a)≤d->d<c->a+b≤d:=lin (.im (.le true (.a (.v 0) (.mn (.v 1) (.s (.v 2) (.v 0)))) (.v 3)) (.im (.lt true (.v 3) (.v 2)) (.le true (.a (.v 0) (.v 1)) (.v 3)))) [a,b,c,d] [] (by kernel_rfl!)
theorem Y21{a:Nat}:nD 0x700b0301 [a]:=ln _ _
theorem Y22{a b c:Nat}:nD 0x1102e108029 [a,b,c]:=ln _ _
theorem Y23{a b:Nat}:nD 0x380d80100701b00c9 [a,b]:=ln _ _
theorem Y24{a b c:Nat}:a<b->max 0 b+1≤c->a+1≤c:=lin (.im (.lt true (.v 0) (.v 1)) (.im (.le true (.a (.mx (.k 0) (.v 1)) (.k 1)) (.v 2)) (.le true (.a (.v 0) (.k 1)) (.v 2)))) [a,b,c] [] (by kernel_rfl!)
theorem Y25{a b c:Nat}:a<b->c+1-min b (c+1)≤c-a:=lin (.im (.lt true (.v 0) (.v 1)) (.le true (.s (.a (.v 2) (.k 1)) (.mn (.v 1) (.a (.v 2) (.k 1)))) (.s (.v 2) (.v 0)))) [a,b,c] [] (by kernel_rfl!)
theorem Y26{a b c:Nat}:nD 0x1102e008029 [a,b,c]:=ln _ _
theorem Y27:∀{a b c:Nat} {d:Prop},a<b+1-min c (b+1)->b+1≤c->d:=fun a b=>absurd (show 1≤0 from Y7 a b) (by decide)
theorem Y28{a b c:Nat}:a<b+1-min c (b+1)->a≤b-c:=lin (.im (.lt true (.v 0) (.s (.a (.v 1) (.k 1)) (.mn (.v 2) (.a (.v 1) (.k 1))))) (.le true (.v 0) (.s (.v 1) (.v 2)))) [a,b,c] [] (by kernel_rfl!)
theorem Y29{a b c:Nat}:nD 0x8011042908009 [a,b,c]:=ln _ _
theorem Y2a{a b c:Int}:iD 0x110c1110c908069 [a,b,c]:=li _ _
theorem Y2b{a b c:Int}:iD 0x8041048908069 [a,b,c]:=li _ _
theorem Y2c{a b c d:Nat}:a<min b (c-d)->a<b:=lin (.im (.lt true (.v 0) (.mn (.v 1) (.s (.v 2) (.v 3)))) (.lt true (.v 0) (.v 1))) [a,b,c,d] [] (by kernel_rfl!)
theorem Y2d{a b c d e:Nat}:a+b<min c (d-e)->a+b<c:=lin (.im (.lt true (.a (.v 0) (.v 1)) (.mn (.v 2) (.s (.v 3) (.v 4)))) (.lt true (.a (.v 0) (.v 1)) (.v 2))) [a,b,c,d,e] [] (by kernel_rfl!)
theorem Y2e{a b c d e:Nat}:nD 0x81620861b0877006f6258491880908009 [a,b,c,d,e]:=ln _ _
theorem Y2f{a b:Nat}:nD 0x200843805849 [a,b]:=ln _ _
theorem Y2g{a b:Nat}:nD 0x1c02c10043805849 [a,b]:=ln _ _
theorem Y2h{a b:Int}:iD 0xd876308069 [a,b]:=li _ _
theorem Y2i{a b:Nat}:a≤b->min a b=a:=lin (.im (.le true (.v 0) (.v 1)) (.eq true (.mn (.v 0) (.v 1)) (.v 0))) [a,b] [] (by kernel_rfl!)
theorem Y2j{a b:Nat}:nD 0x1b86e208009 [a,b]:=ln _ _
theorem Y2k{a b c d e:Nat}:a≤b->c≤d->e+(min a b+min c d)=b+d->e+a+c=b+d:=lin (.im (.le true (.v 0) (.v 1)) (.im (.le true (.v 2) (.v 3)) (.im (.eq true (.a (.v 4) (.a (.mn (.v 0) (.v 1)) (.mn (.v 2) (.v 3)))) (.a (.v 1) (.v 3))) (.eq true (.a (.a (.v 4) (.v 0)) (.v 2)) (.a (.v 1) (.v 3)))))) [a,b,c,d,e] [] (by kernel_rfl!)
theorem Y2l{a:Nat}:nD 0xb000600232438008c9 [a]:=ln _ _
theorem Y2m{a b c d:Nat}:nD 0x310701b02d600c3815820b5809 [a,b,c,d]:=ln _ _
theorem Y2n{a b c d:Nat}:nD 0x1841608c3815820b5809 [a,b,c,d]:=ln _ _
theorem Y2o{a b:Nat}:nD 0x1c0416b0701b02c2 [a,b]:=ln _ _
theorem Y2p{a b c:Nat}:nD 0x10701b02d6082c1 [a,b,c]:=ln _ _
theorem Y2q{a b c:Nat}:nD 0x1c0ac105ac20e03605ac2 [a,b,c]:=ln _ _
theorem Y2r{a b:Nat}:nD 33587273 [a,b]:=ln _ _
theorem Y2s{a b:Nat}:nD 0x40008049 [a,b]:=ln _ _
theorem Y2t{a b c:Nat}:nD 0x400880908049 [a,b,c]:=ln _ _
theorem Y2u{a b c:Nat}:nD 0x20d80008049 [a,b,c]:=ln _ _
theorem Y2v{a b c d:Nat}:nD 0x61b5c401884908049 [a,b,c,d]:=ln _ _
theorem Y2w{a b c d e f:Nat}:nD 0x8200c36bdc250e009290491884908049 [a,b,c,d,e,f]:=ln _ _
theorem Y2x{a b c d:Nat}:nD 0x1810061b5ee21884908049 [a,b,c,d]:=ln _ _
theorem Y2y{a b c:Nat}:nD 0x1c0836b80020e00908049 [a,b,c]:=ln _ _
theorem Y2z{a b c d:Nat}:nD 0x801c0c36bdc230e0091884908049 [a,b,c,d]:=ln _ _
theorem Y2A{a b c:Nat}:nD 0x1c0ae00e041b5ee208049 [a,b,c]:=ln _ _
theorem Y2B{a b c:Nat}:nD 0x380dc400082908049 [a,b,c]:=ln _ _
theorem Y2C{a b c d e:Nat}:nD 0x41b0083b0ac1b0049 [a,b,c,d,e]:=ln _ _
theorem Y2D{a:Nat}:nD 0x60200e009 [a]:=ln _ _
theorem Y2E{a b:Nat}:nD 0x20103000dc4908009 [a,b]:=ln _ _
theorem Y2F{a b c d e:Nat}:nD 0x18836b0083b0ac1b0049 [a,b,c,d,e]:=ln _ _
theorem Y2G{a:Nat}:nD 0x3805c200e009 [a]:=ln _ _
theorem Y2H{a b c:Nat}:nD 0x4006041b88c908049 [a,b,c]:=ln _ _
theorem Y2I{a b c d:Nat}:nD 0xc56182f608ac008049 [a,b,c,d]:=ln _ _
theorem Y2J{a b c d:Nat}:nD 0xc62b0456bd80008049 [a,b,c,d]:=ln _ _
theorem Y2K{a b c:Nat}:nD 0x820b0820b5ae2 [a,b,c]:=ln _ _
theorem Y2L{a b c:Nat}:nD 0x837102e208049 [a,b,c]:=ln _ _
theorem Y2M{a b c:Nat}:a=b->c≤b->min c a=c:=lin (.im (.eq true (.v 0) (.v 1)) (.im (.le true (.v 2) (.v 1)) (.eq true (.mn (.v 2) (.v 0)) (.v 2)))) [a,b,c] [] (by kernel_rfl!)
theorem Y2N{a:Nat}:nD 0xc0418008c9 [a]:=ln _ _
theorem Y2O{a b:Nat}:nD 0x1c02e1c0417b86c206020b88c9 [a,b]:=ln _ _
theorem Y2P{a b c d e f g:Nat}:a=b->c=d->e≤d->f=a-g+min e c->f=b-g+e:=lin (.im (.eq true (.v 0) (.v 1)) (.im (.eq true (.v 2) (.v 3)) (.im (.le true (.v 4) (.v 3)) (.im (.eq true (.v 5) (.a (.s (.v 0) (.v 6)) (.mn (.v 4) (.v 2)))) (.eq true (.v 5) (.a (.s (.v 1) (.v 6)) (.v 4))))))) [a,b,c,d,e,f,g] [] (by kernel_rfl!)
theorem Y2Q{a b c d e f g h:Nat}:nD 0x1c18286d6b00c515ec7124660241828ae232483b0ac1b0049 [a,b,c,d,e,f,g,h]:=ln _ _
theorem Y2R{a b c d:Nat}:nD 0xc02b586105ec115ac206020b88c9 [a,b,c,d]:=ln _ _
theorem Y2S{a b c:Nat}:nD 0x41c0020b884906020b88c9 [a,b,c]:=ln _ _
theorem Y2T{a b:Nat}:nD 0x21c000112418008c9 [a,b]:=ln _ _
theorem Y2U{a b c d:Nat}:nD 0xe003106e032441b8049 [a,b,c,d]:=ln _ _
theorem Y2V{a b c d:Nat}:nD 0x18822080e60082908009 [a,b,c,d]:=ln _ _
theorem Y2W{a b c:Nat}:nD 0x20804105809 [a,b,c]:=ln _ _
theorem Y2X{a b c d:Nat}:nD 0x8ae3118030a44105809 [a,b,c,d]:=ln _ _
theorem Y2Y{a b c d:Nat}:nD 0x10c0308ae1398030a44105809 [a,b,c,d]:=ln _ _
theorem Y2Z{a b c:Nat}:nD 0x20d802106c009921c0ac1b0029 [a,b,c]:=ln _ _
theorem Y30{a b c:Nat}:nD 0x1c0836b80020d80232441b0009 [a,b,c]:=ln _ _
theorem Y31{a b c:Nat}:nD 0x8360e041b5c220d80232441b0009 [a,b,c]:=ln _ _
theorem Y32{a b c:Int}:iD 0x4430086908069 [a,b,c]:=li _ _
theorem Y33{a b c:Int}:iD 0x8031046908069 [a,b,c]:=li _ _
theorem Y34{a b c:Nat}:nD 0x4110700b08291040908009 [a,b,c]:=ln _ _
theorem Y35{a b c d:Nat}:nD 0x30583815803101210e00908049 [a,b,c,d]:=ln _ _
theorem Y36{a b:Nat}:a+1<b->min a b=a:=lin (.im (.lt true (.a (.v 0) (.k 1)) (.v 1)) (.eq true (.mn (.v 0) (.v 1)) (.v 0))) [a,b] [] (by kernel_rfl!)
theorem Y37{a b:Nat}:nD 0x200843805829 [a,b]:=ln _ _
theorem Y38{a b:Nat}:nD 0x380d80008049 [a,b]:=ln _ _
theorem Y39{a:Nat}:nD 0x1c003805ae2 [a]:=ln _ _
theorem Y3a{a b c d:Nat}:nD 0xc36102c21884908049 [a,b,c,d]:=ln _ _
theorem Y3b{a:Nat}:nD 58742784 [a]:=ln _ _
theorem Y3c{a b c d e f g:Nat}:nD 0x1856058b6312c5b0861b10491884908049 [a,b,c,d,e,f,g]:=ln _ _
theorem Y3d{a b:Nat}:nD 0x360e0000e009 [a,b]:=ln _ _
theorem Y3e{a b:Nat}:nD 0x701c06d6058380e03605ac2 [a,b]:=ln _ _
theorem Y3f{a b c:Nat}:nD 0x18088020244105849 [a,b,c]:=ln _ _
theorem Y3g{a b c:Nat}:nD 0x100370580110920080c9 [a,b,c]:=ln _ _
theorem Y3h{a b:Nat}:nD 0x370e000080c9 [a,b]:=ln _ _
theorem Y3i{a b c:Nat}:¬a<b->min b c≤a:=lin (.im (.no (.lt true (.v 0) (.v 1))) (.le true (.mn (.v 1) (.v 2)) (.v 0))) [a,b,c] [] (by kernel_rfl!)
theorem Y3j{a b c d:Nat}:a+b≤c->d=c->min b (d-a)=b:=lin (.im (.le true (.a (.v 0) (.v 1)) (.v 2)) (.im (.eq true (.v 3) (.v 2)) (.eq true (.mn (.v 1) (.s (.v 3) (.v 0))) (.v 1)))) [a,b,c,d] [] (by kernel_rfl!)
theorem Y3k{a b c d:Nat}:nD 0x208077b8416b08431244105809 [a,b,c,d]:=ln _ _
theorem Y3l{a b c:Nat}:a<min b c->a<b:=lin (.im (.lt true (.v 0) (.mn (.v 1) (.v 2))) (.lt true (.v 0) (.v 1))) [a,b,c] [] (by kernel_rfl!)
theorem Y3m{a b c:Nat}:nD 0x45600ac008029 [a,b,c]:=ln _ _
theorem Y3n{a b c:Nat}:nD 0x20d838058020e00908009 [a,b,c]:=ln _ _
theorem Y3o{a b c d:Nat}:nD 0xc4105ac218820b5849 [a,b,c,d]:=ln _ _
theorem Y3p{a b c d e:Nat}:a=b->1≤c->c≤b-d->d+min (b-d) e≤a:=lin (.im (.eq true (.v 0) (.v 1)) (.im (.le true (.k 1) (.v 2)) (.im (.le true (.v 2) (.s (.v 1) (.v 3))) (.le true (.a (.v 3) (.mn (.s (.v 1) (.v 3)) (.v 4))) (.v 0))))) [a,b,c,d,e] [] (by kernel_rfl!)
theorem Y3q{a b c d:Nat}:a≤b-c->a<d->a≤min (b-c) d:=lin (.im (.le true (.v 0) (.s (.v 1) (.v 2))) (.im (.lt true (.v 0) (.v 3)) (.le true (.v 0) (.mn (.s (.v 1) (.v 2)) (.v 3))))) [a,b,c,d] [] (by kernel_rfl!)
theorem Y3r{a b c d:Nat}:1≤a->a≤b-c->a<d->1≤min (b-c) d:=lin (.im (.le true (.k 1) (.v 0)) (.im (.le true (.v 0) (.s (.v 1) (.v 2))) (.im (.lt true (.v 0) (.v 3)) (.le true (.k 1) (.mn (.s (.v 1) (.v 2)) (.v 3)))))) [a,b,c,d] [] (by kernel_rfl!)
theorem Y3s{a b c:Nat}:1≤min (a-b) c->b+min (a-b) c≤a:=lin (.im (.le true (.k 1) (.mn (.s (.v 0) (.v 1)) (.v 2))) (.le true (.a (.v 1) (.mn (.s (.v 0) (.v 1)) (.v 2))) (.v 0))) [a,b,c] [] (by kernel_rfl!)
theorem Y3t{a b c:Nat}:nD 0x805600837001200e009 [a,b,c]:=ln _ _
theorem Y3u{a:Nat}:nD 0x5805c200e029 [a]:=ln _ _
theorem Y3v{a:Nat}:nD 0x1c0b00bd8200e029 [a]:=ln _ _
theorem Y3w{a b c:Nat}:max 0 a≤b->b+c=a->c=0:=lin (.im (.le true (.mx (.k 0) (.v 0)) (.v 1)) (.im (.eq true (.a (.v 1) (.v 2)) (.v 0)) (.eq true (.v 2) (.k 0)))) [a,b,c] [] (by kernel_rfl!)
theorem Y3x{a b c:Nat}:max 0 a≤b->b+c=a->b=a:=lin (.im (.le true (.mx (.k 0) (.v 0)) (.v 1)) (.im (.eq true (.a (.v 1) (.v 2)) (.v 0)) (.eq true (.v 1) (.v 0)))) [a,b,c] [] (by kernel_rfl!)
theorem Y3y{a:Nat}:nD 0x160170e05805ee0 [a]:=ln _ _
theorem Y3z{a:Nat}:nD 0x2c02e2c02e0 [a]:=ln _ _
theorem Y3A:∀{a:Nat},¬a≤1->Nat.succ (a-2)<a:=by intros;(first|lia|omega)
theorem Y3B{a b c d:Nat}:a≤max 1 (b-c)->d+1=a->d≤max 1 (b-(c+1)):=lin (.im (.le true (.v 0) (.mx (.k 1) (.s (.v 1) (.v 2)))) (.im (.eq true (.a (.v 3) (.k 1)) (.v 0)) (.le true (.v 3) (.mx (.k 1) (.s (.v 1) (.a (.v 2) (.k 1))))))) [a,b,c,d] [] (by kernel_rfl!)
theorem Y3C{a b:Nat}:a≤max 1 (b-max 0 b)->a≤1:=lin (.im (.le true (.v 0) (.mx (.k 1) (.s (.v 1) (.mx (.k 0) (.v 1))))) (.le true (.v 0) (.k 1))) [a,b] [] (by kernel_rfl!)
theorem Y3D{a b c:Nat}:a=b->c≤a->c≤max 1 (b-0):=lin (.im (.eq true (.v 0) (.v 1)) (.im (.le true (.v 2) (.v 0)) (.le true (.v 2) (.mx (.k 1) (.s (.v 1) (.k 0)))))) [a,b,c] [] (by kernel_rfl!)
theorem Y3E{a b:Nat}:nD 0x380d80108009 [a,b]:=ln _ _
theorem Y3F{a b c:Nat}:nD 0x836102c108029 [a,b,c]:=ln _ _
theorem Y3G{a:Nat}:nD 0x800000640000000186a0c8009 [a]:=ln _ _
theorem Y3H{a:Nat}:nD 0x7000020000019b0002c0029 [a]:=ln _ _
theorem Y3I:∀{a:Nat} {b:Prop},a+1+1<2->b:=by intros;(first|lia|omega)
theorem Y3J{a:Nat}:nD 0x2c0058004c9 [a]:=ln _ _
theorem Y3K{a:Nat}:nD 0x380001000000cd80000000186a0c8009 [a]:=ln _ _
theorem Y3L{a b c d e f:Int}:iD 0x1444200a72008828c84094e40910918881014e101109 [a,b,c,d,e,f]:=li _ _
theorem Y3M{a b c d e f:Int}:iD 0x1444200a72008828c64094e40910918881014e101109 [a,b,c,d,e,f]:=li _ _
theorem Y3N{a b:Int}:iD 0x423000a700088 [a,b]:=li _ _
theorem Y3O{a b c:Nat}:nD 0x2e03841042908009 [a,b,c]:=ln _ _
theorem Y3P{a b:Nat}:nD 0x1c0f08608009 [a,b]:=ln _ _
theorem Y3Q{a b:Nat}:nD 0xc35064200044900000186a0c8009 [a,b]:=ln _ _
theorem Y3R{a b c:Nat}:nD 0x206021109201600908049 [a,b,c]:=ln _ _
theorem Y3S{a b:Int}:iD 0x48608069 [a,b]:=li _ _
theorem Y3T{a b:Nat}:nD 0x4020802648701b0029 [a,b]:=ln _ _
theorem Y3U{a b:Nat}:nD 0x380dc010e037008c908029 [a,b]:=ln _ _
theorem Y3V{a b:Nat}:nD 0x200043805809 [a,b]:=ln _ _
theorem Y3W{a b:Nat}:nD 0x380d80108029 [a,b]:=ln _ _
theorem Y3X{a:Nat}:nD 58742785 [a]:=ln _ _
theorem Y3Y{a:Nat}:nD 0xc0040c0009 [a]:=ln _ _
theorem Y3Z{a b:Nat}:nD 0x2000701b004648701b0009 [a,b]:=ln _ _
theorem Y40{a b:Nat}:nD 0x200843805809 [a,b]:=ln _ _
theorem Y41{a b:Nat}:nD 0x200041805849 [a,b]:=ln _ _
theorem Y42:∀{a b:Nat} {c:Prop},a+0=b->a<b->c:=by intros;(first|lia|omega)
theorem Y43{a b c:Nat}:nD 0x100220e03605849 [a,b,c]:=ln _ _
theorem Y44{a b c:Nat}:nD 0x83805c220e03605849 [a,b,c]:=ln _ _
theorem Y45{a b c:Nat}:nD 0x100020e03605849 [a,b,c]:=ln _ _
theorem Y46{a b c:Nat}:nD 0x208700b58420e03605849 [a,b,c]:=ln _ _
theorem Y47{a b c:Nat}:nD 0x8011042908029 [a,b,c]:=ln _ _
theorem Y48{a b c:Nat}:nD 0x1c0456bdc4008029 [a,b,c]:=ln _ _
theorem Y49{a b c d:Nat}:nD 0xe043b5ee10e043b5ee11042908029 [a,b,c,d]:=ln _ _
theorem Y4a{a b c d:Nat}:nD 0x230e022b5ee11880908029 [a,b,c,d]:=ln _ _
theorem Y4b{a b c:Nat}:nD 0x20842001cc1000c9 [a,b,c]:=ln _ _
theorem Y4c{a b:Nat}:nD 0x421000c9 [a,b]:=ln _ _
theorem Y4d{a b c:Nat}:nD 0x200e022b5ee10080908029 [a,b,c]:=ln _ _
theorem Y4e{a b c d:Nat}:nD 0x30040201cc1100c908029 [a,b,c,d]:=ln _ _
theorem Y4f:∀{a b c d e:Nat} {f g:Prop},a≤b->b<c->c<a+1->d<e∧f∧g:=by intros;(first|lia|omega)
theorem Y4g{a b:Nat}:nD 0x110700b042908009 [a,b]:=ln _ _
theorem Y4h{a b:Nat}:nD 0x8421000e6 [a,b]:=ln _ _
theorem Y4i{a b c:Nat}:nD 0xe0570870205af708702b8438102d7b88c908009 [a,b,c]:=ln _ _
theorem Y4j{a b c:Nat}:nD 0x20e05708702b8438102d7b88c908009 [a,b,c]:=ln _ _
theorem Y4k{a b:Nat}:nD 0x21c06e108029 [a,b]:=ln _ _
theorem Y4l{a b c:Nat}:nD 0x421100e608009 [a,b,c]:=ln _ _
theorem Y4m{a b:Nat}:nD 0x438058370843805809 [a,b]:=ln _ _
theorem Y4n{a:Nat}:nD 0x1800800c04c9 [a]:=ln _ _
theorem Y4o{a:Nat}:nD 0xe018b02e100700c5809 [a]:=ln _ _
theorem Y4p{a b:Nat}:nD 0x701b02e1c0701b583805ae2 [a,b]:=ln _ _
theorem Y4q{a b c:Nat}:nD 0x10020060071042908029 [a,b,c]:=ln _ _
theorem Y4r{a b:Nat}:nD 0x80200600708029 [a,b]:=ln _ _
theorem Y4s{a b c:Nat}:nD 0x3810316bdc21c0818b5ee11042908029 [a,b,c]:=ln _ _
theorem Y4t{a b c:Nat}:nD 0x441c0418b5ee108029 [a,b,c]:=ln _ _
theorem Y4u{a b:Nat}:nD 0x401b82c208009 [a,b]:=ln _ _
theorem Y4v{a b:Nat}:nD 0x8700b06e1c02d61043805809 [a,b]:=ln _ _
theorem Y4w{a:Nat}:nD 0x70000700c5809 [a]:=ln _ _
theorem Y4x{a:Nat}:nD 0x1c02e1c58400e009 [a]:=ln _ _
theorem Y4y:∀{a b:Nat} {c:Prop},a<b->b<1->c:=by intros;(first|lia|omega)
theorem Y4z{a b:Nat}:nD 0x8021008c908009 [a,b]:=ln _ _
theorem Y4A{a b:Nat}:nD 0x830108029 [a,b]:=ln _ _
theorem Y4B{a b:Nat}:nD 0x21c02e108029 [a,b]:=ln _ _
theorem Y4C{a:Nat}:nD 0x400c00e6 [a]:=ln _ _
theorem Y4D{a b:Nat}:nD 0x21c0018b5ee0c041808700062d7b88c9 [a,b]:=ln _ _
theorem Y4E{a b:Nat}:nD 0x8700062d7b841808700062d7b88c9 [a,b]:=ln _ _
theorem Y4F:∀{a b c d:Nat} {e f:Prop},1≤a->a<b->b<1+1->c<d∧e∧f:=by intros;(first|lia|omega)
theorem Y4G{a:Nat}:nD 0x1c0041c0716005200e009 [a]:=ln _ _
theorem Y4H{a:Nat}:nD 0xc0041c0029 [a]:=ln _ _
theorem Y4I{a b c:Nat}:nD 0x40008204830105c09 [a,b,c]:=ln _ _
theorem Y4J{a b c d e:Nat}:nD 0x240806048c40484014870425ac31580918ac425809 [a,b,c,d,e]:=ln _ _
theorem Y4K:∀{a b c d:Nat},a<b->c≤d->d≤a->(c+d) / 2<b:=fun h0 h1 h2=>Y4J (Ze _) (Zf _) h0 h1 h2
theorem Y4L{a b c:Nat}:nD 0x40004004870215ac105809082c215809 [a,b,c]:=ln _ _
theorem Y4M:∀{a b:Nat},a≤b->a≤(a+b) / 2:=fun h0=>Y4L (Ze _) (Zf _) h0
theorem Y4N:∀{a b c:Nat},a-b≤c+1->(b+a) / 2-b≤c:=fun{a b _} h=>Y4 (mid b a) h
theorem Y4O{a b c d:Nat}:nD 0x8611884648860487031dac105809082c31d809 [a,b,c,d]:=ln _ _
theorem Y4P:∀{a b c:Nat},(a+b) / 2≤c->¬c=(a+b) / 2->(a+b) / 2<c:=fun h0 h1=>Y4O (Ze _) (Zf _) h0 h1
theorem Y4Q:∀{a b c:Nat},a-b≤c+1->a-((b+a) / 2+1)≤c:=fun{a b _} h=>Y5 (mid b a) h
theorem Y4R{a b c d:Nat}:nD 0x6008c02324381d801487031dac20d809106c31d809 [a,b,c,d]:=ln _ _
theorem Y4S:∀{a b c:Nat},a<(b+c) / 2+1->¬a=(b+c) / 2->a<(b+c) / 2:=fun h0 h1=>Y4R (Ze _) (Zf _) h0 h1
theorem Y4T{a b:Nat}:nD 33504 [a,b]:=ln _ _
theorem Y4U{a b c:Nat}:nD 0x100461044908029 [a,b,c]:=ln _ _
theorem Y4V{a b c d:Nat}:nD 0x18000104e61044908029 [a,b,c,d]:=ln _ _
theorem Y4W{a b c:Nat}:nD 0x8011044908029 [a,b,c]:=ln _ _
theorem Y4X{a b c:Nat}:nD 0x4008702b042908029 [a,b,c]:=ln _ _
theorem Y4Y{a b c d:Nat}:nD 0x410046138c0248702b042908029 [a,b,c,d]:=ln _ _
theorem Y4Z{a b c:Nat}:nD 0x380dc401004908029 [a,b,c]:=ln _ _
theorem Y50{a b c:Nat}:nD 0x20e03708702b042908029 [a,b,c]:=ln _ _
theorem Y51{a b c d:Nat}:nD 0x41004613880000c2748702b042908029 [a,b,c,d]:=ln _ _
theorem Y52{a b c d:Nat}:nD 0x1c06e1c02e118000104e908029 [a,b,c,d]:=ln _ _
theorem Y53{a b c d:Nat}:nD 0x10e017084601882748701b0029 [a,b,c,d]:=ln _ _
theorem Y54{a b c d:Nat}:nD 0xe03700461004413a4600004139922008c908029 [a,b,c,d]:=ln _ _
theorem Y55{a b c:Nat}:nD 0x41c06e110401004e9 [a,b,c]:=ln _ _
theorem Y56{a b c:Nat}:nD 0x88211004009cc90084648701b082908009 [a,b,c]:=ln _ _
theorem Y57{a b c:Nat}:nD 0x42308380d80908009 [a,b,c]:=ln _ _
theorem Y58{a b c:Nat}:nD 0x20088273043805809 [a,b,c]:=ln _ _
theorem Y59{a b:Nat}:nD 0x201041805849 [a,b]:=ln _ _
theorem Y5a{a:Nat}:nD 787168 [a]:=ln _ _
theorem Y5b:∀{a:Nat} {b:Prop},a<0->b:=by intros;(first|lia|omega)
theorem Y5c:∀{a b:Nat} {c:Prop},a≤b->b<a->c:=by intros;(first|lia|omega)
theorem Y5d{a b:Nat}:nD 0x8438085200e009 [a,b]:=ln _ _
theorem Y5e{a:Nat}:1≤a->max a 1=a:=lin (.im (.le true (.k 1) (.v 0)) (.eq true (.mx (.v 0) (.k 1)) (.v 0))) [a] [] (by kernel_rfl!)
theorem Y5f:∀{a b c d:Int},¬(a<b∨a=b∧c<d)↔b<a∨b=a∧d≤c:=⟨fun a=>Y8 a,fun a=>Y9 a⟩
theorem Y5g{a b c:Nat}:nD 0x38158410e056024180e0560dc4908049 [a,b,c]:=ln _ _
theorem Y5h{a b:Nat}:nD 0xe036000180e03605c49 [a,b]:=ln _ _
theorem Y5i{a b c d:Nat}:nD 0x1c0ac10e0760e0560dc4908049 [a,b,c,d]:=ln _ _
theorem Y5j{a b c:Nat}:nD 0x1c06c10e0560e03605c49 [a,b,c]:=ln _ _
theorem Y5k{a b c:Nat}:nD 0x8380e036b02e20e0560e03605c49 [a,b,c]:=ln _ _
theorem Y5l{a:Nat}:nD 0x5003805849 [a]:=ln _ _
theorem Y5m{a b:Nat}:nD 0x60210602908049 [a,b]:=ln _ _
theorem Y5n{a:Nat}:nD 0x80000064000000000040c8029 [a]:=ln _ _
theorem Y5o{a:Nat}:nD 0x1c0058004c9 [a]:=ln _ _
theorem Y5p{a b c d:Int}:iD 0x863004a700488188a9080a9 [a,b,c,d]:=li _ _
theorem Y5q{a b c:Nat}:nD 0x4410082908049 [a,b,c]:=ln _ _
theorem Y5r{a b:Nat}:nD 0x206421004490000000040c8029 [a,b]:=ln _ _
theorem Y5s{a b c:Nat}:nD 0x100220e03605809 [a,b,c]:=ln _ _
theorem Y5t{a b c:Nat}:nD 0x208700b58020e03605809 [a,b,c]:=ln _ _
theorem Y5u:∀{a b:Nat},a+Nat.succ b=a+1+b:=by intros;(first|lia|omega)
theorem Y5v{a:Nat}:nD 25194630 [a]:=ln _ _
theorem Y5w{a b:Nat}:a≤b->max 0 (min (↑a:Int) (↑b:Int))=(↑a:Int):=lin (.im (.le true (.v 0) (.v 1)) (.eq false (.mx (.k 0) (.mn (.c (.v 0)) (.c (.v 1)))) (.c (.v 0)))) [a,b] [] (by kernel_rfl!)
theorem Y5x{a b:Nat}:nD 0x401b82c008009 [a,b]:=ln _ _
theorem Y5y:∀{a b:Nat},a<2 ^ 62->b=a->(↑b:Int)<2 ^ 63:=by intros;(first|lia|omega)
theorem Y5z{a b:Nat}:nD 0x8000006420004490000000040c8029 [a,b]:=ln _ _
theorem Y5A{a b:Nat}:nD 0x200043805849 [a,b]:=ln _ _
theorem Y5B{a b:Nat}:nD 0x200047805849 [a,b]:=ln _ _
theorem Y5C{a b c:Nat}:nD 0x2211843c02c24843805849 [a,b,c]:=ln _ _
theorem Y5D{a b c:Nat}:a<64->b=min c a->b≤64:=lin (.im (.lt true (.v 0) (.k 64)) (.im (.eq true (.v 1) (.mn (.v 2) (.v 0))) (.le true (.v 1) (.k 64)))) [a,b,c] [] (by kernel_rfl!)
theorem Y5E{a:Nat}:nD 0x80000064000000000040c8009 [a]:=ln _ _
theorem Y5F{a:Nat}:nD 0x1c000080000066c1c02c00000000040c8009 [a]:=ln _ _
theorem Y5G{a b:Nat}:nD 0xc582008049 [a,b]:=ln _ _
theorem Y5H{a b c:Nat}:nD 0x800000644008849004490000000040c8029 [a,b,c]:=ln _ _
theorem Y5I{a b:Nat}:nD 0x380001000000cd820004490000000040c8029 [a,b]:=ln _ _
theorem Y5J{a b:Nat}:nD 0x2c0058084c908049 [a,b]:=ln _ _
theorem Y5K{a b c:Nat}:nD 0x410882908049 [a,b,c]:=ln _ _
theorem Y5L{a b c:Nat}:nD 0x4400084908009 [a,b,c]:=ln _ _
theorem Y5M{a:Nat}:nD 918275 [a]:=ln _ _
theorem Y5N{a b c:Nat}:nD 0xc00460882908049 [a,b,c]:=ln _ _
theorem Y5O{a b:Nat}:nD 0x1100204830105c49 [a,b]:=ln _ _
theorem Y5P{a b c:Nat}:nD 0x4410080908029 [a,b,c]:=ln _ _
theorem Y5Q{a b c:Nat}:nD 0x421c0ac105c49 [a,b,c]:=ln _ _
theorem Y5R{a b c:Nat}:nD 0x20e03605c41c0ac105c49 [a,b,c]:=ln _ _
theorem Y5S{a b c:Nat}:nD 0x380d801c0ac105c49 [a,b,c]:=ln _ _
theorem Y5T{a b c d e:Nat}:a+1+min b c<d->e≤b->a+1+min e c<d:=lin (.im (.lt true (.a (.a (.v 0) (.k 1)) (.mn (.v 1) (.v 2))) (.v 3)) (.im (.le true (.v 4) (.v 1)) (.lt true (.a (.a (.v 0) (.k 1)) (.mn (.v 4) (.v 2))) (.v 3)))) [a,b,c,d,e] [] (by kernel_rfl!)
theorem Y5U{a b c:Nat}:nD 0x2200700b084908029 [a,b,c]:=ln _ _
theorem Y5V{a b:Nat}:nD 0xe01708701b0049 [a,b]:=ln _ _
theorem Y5W:nD 787203 []:=ln _ _
theorem Y5X:nD 1835779 []:=ln _ _
theorem Y5Y{a:Nat}:nD 0x701c0396b0704 [a]:=ln _ _
theorem Y5Z:nD 2884355 []:=ln _ _
theorem Y60{a:Nat}:nD 0x380e038072d6b0b04 [a]:=ln _ _
theorem Y61:nD 3932931 []:=ln _ _
theorem Y62{a:Nat}:nD 0x1c0701c0700e5ad6b0f04 [a]:=ln _ _
theorem Y63:nD 4981507 []:=ln _ _
theorem Y64{a:Nat}:nD 0xe0380e0380e01cb5ad6b1304 [a]:=ln _ _
theorem Y65{a:Nat}:nD 0xe01cb0703 [a]:=ln _ _
theorem Y66:∀{a:Nat},Int.toNat (-1+((↑a:Int)+1))=a:=by intros;(first|lia|omega)
theorem Y67{a:Nat}:nD 0x8800064010000110000c8020000000dfffc84e000001b001900509 [a]:=ln _ _
theorem Y68:∀{a b:Nat},a*b≤16777216->a*b+a*0≤16777216:=by intros;(first|lia|omega)
theorem Y69:∀{a:Int} {b:Nat},0≤a->a<(↑b:Int)->Int.toNat a<b:=by intros;(first|lia|omega)
theorem Y6a{a:Nat}:nD 0x80000064000000002328c8009 [a]:=ln _ _
theorem Y6b{a b c:Nat}:nD 0x18008411244105809 [a,b,c]:=ln _ _
theorem Y6c{a b c:Nat}:nD 0x8000884908049 [a,b,c]:=ln _ _
theorem Y6d{a b c d:Nat}:nD 0xc20b00431244105809 [a,b,c,d]:=ln _ _
theorem Y6e{a b:Nat}:nD 0x20062c008009 [a,b]:=ln _ _
theorem Y6f:∀{a:Nat} {b c:Int},a<Int.toNat (b-c)->0<(↑(Int.toNat (b-c)):Int)-(↑a:Int):=by intros;(first|lia|omega)
theorem Y6g{a:Int} {b:Nat}:mD 0x700b70160e01c05ac5 [b] [a]:=lm _ _ _
theorem Y6h:∀{a b:Int} {c:Nat},(↑(Int.toNat (a-b)):Int)-(↑c:Int)-1=(↑(Int.toNat (a-b)):Int)-(↑(c+1):Int):=by intros;(first|lia|omega)
theorem Y6i:∀{a b:Int} {c:Nat},Int.toNat (a-b)≤c->(↑(Int.toNat (a-b)):Int)-(↑c:Int)≤0:=by intros;(first|lia|omega)
theorem Y6j:∀{a:Nat},a<2 ^ 62->¬(↑a:Int)≥2 ^ 63:=by intros;(first|lia|omega)
theorem Y6k{a b:Nat}:nD 0x1c000080000066c100700b040900000003e8c8009 [a,b]:=ln _ _
theorem Y6l{a b:Nat}:nD 0x1f464200044900000003e8c8009 [a,b]:=ln _ _
theorem Y6m{a b c:Nat}:a≤b->c≤b->max a c≤b:=lin (.im (.le true (.v 0) (.v 1)) (.im (.le true (.v 2) (.v 1)) (.le true (.mx (.v 0) (.v 2)) (.v 1)))) [a,b,c] [] (by kernel_rfl!)
theorem Y6n{a b c:Nat}:a+b<c->a+min b b<c:=lin (.im (.lt true (.a (.v 0) (.v 1)) (.v 2)) (.lt true (.a (.v 0) (.mn (.v 1) (.v 1))) (.v 2))) [a,b,c] [] (by kernel_rfl!)
theorem Y6o{a b c:Nat}:nD 0x100020e03605809 [a,b,c]:=ln _ _
theorem Y6p{a b c:Nat}:nD 0x41058020e03605809 [a,b,c]:=ln _ _
theorem Y6q{a b c:Nat}:nD 0x41c06c0b84010a44105c49 [a,b,c]:=ln _ _
theorem Y6r{a:Nat}:nD 0x1b00b0f01c0700b5ac0 [a]:=ln _ _
theorem Y6s{a b c d e:Nat}:nD 0x883b0024124031244105809 [a,b,c,d,e]:=ln _ _
theorem Y6t:∀{a:Int},-2 ^ 63≤a->a<2 ^ 63->-9223372036854775808≤a∧a<9223372036854775808:=by intros;(first|lia|omega)
theorem Y6u{a:Nat}:nD 0x4d5990e07805ac10000002328c8029 [a]:=ln _ _
theorem Y6v{a b:Nat}:a<9000->a+3+1+min b (max 0 (max 0 0)+1)<9900:=lin (.im (.lt true (.v 0) (.k 9000)) (.lt true (.a (.a (.a (.v 0) (.k 3)) (.k 1)) (.mn (.v 1) (.a (.mx (.k 0) (.mx (.k 0) (.k 0))) (.k 1)))) (.k 9900))) [a,b] [] (by kernel_rfl!)
theorem Y6w{a:Nat}:nD 0x80000064000000002710c8009 [a]:=ln _ _
theorem Y6x{a b:Nat}:a<9000->a+3+1+min b 0<9900:=lin (.im (.lt true (.v 0) (.k 9000)) (.lt true (.a (.a (.a (.v 0) (.k 3)) (.k 1)) (.mn (.v 1) (.k 0))) (.k 9900))) [a,b] [] (by kernel_rfl!)
theorem Y6y{a:Nat}:a<9000->a+1+min (max 0 (max 0 0)) 0<9900:=lin (.im (.lt true (.v 0) (.k 9000)) (.lt true (.a (.a (.v 0) (.k 1)) (.mn (.mx (.k 0) (.mx (.k 0) (.k 0))) (.k 0))) (.k 9900))) [a] [] (by kernel_rfl!)
theorem Y6z{a:Nat}:nD 0x8ca323c02c10000001f40c8029 [a]:=ln _ _
theorem Y6A{a b:Nat}:nD 0x3cc800000000007990e03605809 [a,b]:=ln _ _
theorem Y6B{a:Nat}:nD 0x8000006400000000003cc8009 [a]:=ln _ _
theorem Y6C{a b:Nat}:nD 0x206421004090000000040c8029 [a,b]:=ln _ _
theorem Y6D:∀{a:Nat},a≤1000->a<2 ^ 62:=by intros;(first|lia|omega)
theorem Y6E{a:Nat}:nD 0x1c0e0600e009 [a]:=ln _ _
theorem Y6F{a:Nat}:nD 0x1980706cc0009 [a]:=ln _ _
theorem Y6G{a:Nat}:nD 0x800000640000000003e8c8009 [a]:=ln _ _
theorem Y6H{a:Nat}:nD 0x38cc1198000c9 [a]:=ln _ _
theorem Y6I{a:Nat}:nD 0x700e1001c00c9 [a]:=ln _ _
theorem Y6J{a b c:Nat}:nD 0x110438058424843805829 [a,b,c]:=ln _ _
theorem Y6K{a b:Nat}:nD 0x200845805829 [a,b]:=ln _ _
theorem Y6L{a b c:Nat}:nD 0x8702b0438058424845805829 [a,b,c]:=ln _ _
theorem Y6M{a:Nat}:nD 0x138864000000002328c8009 [a]:=ln _ _
theorem Y6N:∀{a b:Nat},a≤9000->b<a->(↑b:Int)<2 ^ 63:=by intros;(first|lia|omega)
theorem Y6O{a b:Nat}:nD 0x7d032108f00b04490000001b58c8029 [a,b]:=ln _ _
theorem Y6P{a:Nat}:nD 0x206401000000003cc8009 [a]:=ln _ _
theorem Y6Q{a b:Nat}:a<9000->a+1+min b 0<9900:=lin (.im (.lt true (.v 0) (.k 9000)) (.lt true (.a (.a (.v 0) (.k 1)) (.mn (.v 1) (.k 0))) (.k 9900))) [a,b] [] (by kernel_rfl!)
theorem Y6R{a b:Nat}:nD 0x8ca32108f00b04490000001b58c8029 [a,b]:=ln _ _
theorem Y6S{a:Nat}:nD 0x13886400000000003cc8009 [a]:=ln _ _
theorem Y6T{a:Nat}:nD 0x138864000000002710c8009 [a]:=ln _ _
theorem Y6U{a b:Nat}:nD 0x6d632108f00b04490000001af4c8029 [a,b]:=ln _ _
theorem Y6V{a b:Nat}:nD 0x8ca32108f00b04490000001af4c8029 [a,b]:=ln _ _
theorem Y6W{a b:Nat}:nD 0x10e0160845805829 [a,b]:=ln _ _
theorem Y6X{a b:Nat}:nD 0x200847805829 [a,b]:=ln _ _
theorem Y6Y{a b:Nat}:nD 0x6bd32108f00b04490000001a90c8029 [a,b]:=ln _ _
theorem Y6Z{a b c:Nat}:nD 0x8b02b0438058424847805829 [a,b,c]:=ln _ _
theorem Y70{a:Nat}:nD 0x13886400000000270fc8009 [a]:=ln _ _
theorem Y71{a b c:Nat}:nD 0x8702b0438058424847805829 [a,b,c]:=ln _ _
theorem Y72{a:Nat}:nD 0xd7a64010000001af4c8029 [a]:=ln _ _
theorem Y73{a b:Int} {c d:Nat}:mD 0x1008010840431c012212100401218e101109 [c,d] [a,b]:=lm _ _ _
theorem Y74{a b c d:Int}:iD 0x2194432192009523110c101529 [a,b,c,d]:=li _ _
theorem Y75{a b:Nat}:nD 0x10043c07089 [a,b]:=ln _ _
theorem Y76{a b:Nat}:nD 0x200849805829 [a,b]:=ln _ _
theorem Y77{a b c:Nat}:nD 0x8b02b0438058424849805829 [a,b,c]:=ln _ _
theorem Y78{a b:Nat}:nD 0x6d632108f00b04490000001a2cc8029 [a,b]:=ln _ _
theorem Y79{a b c:Nat}:nD 0x8f02b0438058424849805829 [a,b,c]:=ln _ _
theorem Y7a{a b:Nat}:nD 0x6a432108f00b04490000001a2cc8029 [a,b]:=ln _ _
theorem Y7b{a b c:Nat}:nD 0x110438058424849805829 [a,b,c]:=ln _ _
theorem Y7c{a b:Nat}:nD 0x8ca32108f00b04490000001a2cc8029 [a,b]:=ln _ _
theorem Y7d{a:Nat}:nD 0x119464000000002327c8009 [a]:=ln _ _
theorem Y7e{a b:Int}:a<b->max a b=b:=lin (.im (.lt false (.v 0) (.v 1)) (.eq false (.mx (.v 0) (.v 1)) (.v 1))) [] [a,b] (by kernel_rfl!)
theorem Y7f{a b:Int}:¬a<b->max a b=a:=lin (.im (.no (.lt false (.v 0) (.v 1))) (.eq false (.mx (.v 0) (.v 1)) (.v 0))) [] [a,b] (by kernel_rfl!)
theorem Y7g{a b:Nat}:nD 0x20084b805829 [a,b]:=ln _ _
theorem Y7h{a b c:Nat}:nD 0x11043805842484b805829 [a,b,c]:=ln _ _
theorem Y7i{a b:Nat}:nD 0x1c07000def6006e208029 [a,b]:=ln _ _
theorem Y7j{a b c:Nat}:nD 0x9302b043805842484b805829 [a,b,c]:=ln _ _
theorem Y7k{a b:Nat}:nD 0x68b32108f00b044900000019c8c8029 [a,b]:=ln _ _
theorem Y7l{a b c:Nat}:nD 0x4170e03605c21c0ac105c49 [a,b,c]:=ln _ _
theorem Y7m{a b:Nat}:nD 0x10e016b0701b02c2 [a,b]:=ln _ _
theorem Y7n{a b:Nat}:nD 0x3000dc41004c9 [a,b]:=ln _ _
theorem Y7o{a:Nat}:nD 0x3e8c800cc0009 [a]:=ln _ _
theorem Y7p{a b c:Nat}:nD 0x110438058424845805829 [a,b,c]:=ln _ _
theorem Y7q{a b c d:Nat}:nD 0x8703b044312438058424845805829 [a,b,c,d]:=ln _ _
theorem Y7r{a b c:Nat}:nD 0x6d63220844248f00b04490000001af4c8029 [a,b,c]:=ln _ _
theorem Y7s{a:Nat}:nD 0x3d80707ec0009 [a]:=ln _ _
theorem Y7t{a b:Nat}:nD 0x3d8003d80e03605809 [a,b]:=ln _ _
theorem Y7u{a:Nat}:nD 0x1000000c801ec0009 [a]:=ln _ _
theorem Y7v{a b:Nat}:nD 0x28c802000000005190e03605809 [a,b]:=ln _ _
theorem Y7w{a:Nat}:nD 0x28c83840000000028c8029 [a]:=ln _ _
theorem Y7x{a:Nat}:nD 0x80000064000000000028c8029 [a]:=ln _ _
theorem Y7y{a b:Nat}:nD 0x8ca32108f00b04490000001a90c8029 [a,b]:=ln _ _
theorem Y7z{a b c:Nat}:nD 0x11043805842484d805829 [a,b,c]:=ln _ _
theorem Y7A{a b c d:Nat}:nD 0x4781d821c0ac31243805842484d805829 [a,b,c,d]:=ln _ _
theorem Y7B{a b c:Nat}:nD 0x35219104780d84248b00b04090000001a2cc8029 [a,b,c]:=ln _ _
theorem Y7C{a b c d:Nat}:nD 0x8c21c0ac31243805842484d805829 [a,b,c,d]:=ln _ _
theorem Y7D{a:Nat}:nD 0x1e64000000000028c8009 [a]:=ln _ _
theorem Y7E{a b c d:Nat}:nD 0x4381d821c0ac31243805842484d805829 [a,b,c,d]:=ln _ _
theorem Y7F{a b:Int} {c d:Nat} {e:Int} {f:Nat}:mD 0x800100a71008810402094e20910908001014e101109 [c,d,f] [a,b,e]:=lm _ _ _
theorem Y7G{a b:Int} {c d:Nat}:mD 0x20004a70048808001014e101108 [c,d] [a,b]:=lm _ _ _
theorem Y7H{a b:Nat} {c d:Int}:mD 0x100401218e1011010002029c2022121008c9 [a,b] [c,d]:=lm _ _ _
theorem Y7I{a b:Nat}:nD 0x11946420004090000002328c8009 [a,b]:=ln _ _
theorem Y7J{a:Nat}:nD 0xa0701c20380c0ce9 [a]:=ln _ _
theorem Y7K{a b:Nat}:nD 0x380d80008009 [a,b]:=ln _ _
theorem Y7L{a b c:Nat}:nD 0x38158001040908009 [a,b,c]:=ln _ _
theorem Y7M{a b c:Nat}:nD 0x702b06c1c02c008009 [a,b,c]:=ln _ _
theorem Y7N{a b:Nat}:nD 0x1c06c1c02c008009 [a,b]:=ln _ _
theorem Y7O{a b c:Nat}:nD 0x1c0ac00082048701b0009 [a,b,c]:=ln _ _
theorem Y7P{a:Nat}:nD 0x3805b80e101c06067 [a]:=ln _ _
theorem Y7Q{a:Int} {b:Nat}:mD 0x3805b802001819c1c01000c0ce9 [b] [a]:=lm _ _ _
theorem Y7R{a:Nat}:nD 0x1ec001dc0009 [a]:=ln _ _
theorem Y7S{a:Nat}:nD 0x1e6400000000003bc8009 [a]:=ln _ _
theorem Y7T{a b:Nat}:nD 0x40108029 [a,b]:=ln _ _
theorem Y7U:∀{a:Nat},a≤1000->(↑a:Int)<2 ^ 63:=by intros;(first|lia|omega)
theorem Y7V{a b:Nat}:nD 0x401004c9 [a,b]:=ln _ _
theorem Y7W:∀{a:Int},a<7->Int.toNat a<7:=by intros;(first|lia|omega)
theorem Y7X:∀{a:Int},a<7->a<2 ^ 63:=by intros;(first|lia|omega)
theorem Y7Y{a:Int}:iD 0x18014c006089 [a]:=li _ _
theorem Y7Z:∀{a:Int},0≤a->-2 ^ 63≤a:=by intros;(first|lia|omega)
theorem Y80:∀{a:Int},a<5->a<2 ^ 63:=by intros;(first|lia|omega)
theorem Y81{a:Int}:iD 0xb8e0085c0089 [a]:=li _ _
theorem Y82:∀{a:Int},a<5->Int.toNat a<5:=by intros;(first|lia|omega)
theorem Y83{a:Nat}:nD 0x1c060800e009 [a]:=ln _ _
theorem Y84{a:Nat} {b:Int}:mD 0xb80101c01125c0009 [a] [b]:=lm _ _ _
theorem Y85:∀{a:Int},0≤a->a=(↑(Int.toNat a):Int):=by intros;(first|lia|omega)
theorem Y86{a:Int}:iD 0x3b9aca00c8064c0089 [a]:=li _ _
theorem Y87:∀{a:Nat} {b:Int},a=9->b<9->Int.toNat b<a:=by intros;(first|lia|omega)
theorem Y88:∀{a:Int},a<9->a<2 ^ 63:=by intros;(first|lia|omega)
theorem Y89{a b:Nat}:nD 0x4020e03600521004c9 [a,b]:=ln _ _
theorem Y8a{a b:Nat}:nD 0x5c042008525c0009 [a,b]:=ln _ _
theorem Y8b:∀{a:Int},0≤a->1+a=(↑(Int.toNat (1+a)):Int):=by intros;(first|lia|omega)
theorem Y8c{a:Int} {b:Nat}:mD 0xe000e0038b152006069 [b] [a]:=lm _ _ _
theorem Y8d{a:Int} {b:Nat}:mD 0x5c0000e0038b1525c0089 [b] [a]:=lm _ _ _
theorem Y8e:∀{a:Nat},-2 ^ 62≤(↑a:Int):=by intros;(first|lia|omega)
theorem Y8f:∀{a:Nat},a≤5->(↑a:Int)<2 ^ 62:=by intros;(first|lia|omega)
theorem Y8g{a b:Nat}:nD 0x1c0700b06f6006e208029 [a,b]:=ln _ _
theorem Y8h{a:Nat}:nD 0x38b701c0e2c5 [a]:=ln _ _
theorem Y8i{a b:Nat}:nD 0x1f46421c580008125c0009 [a,b]:=ln _ _
theorem Y8j{a b:Nat}:nD 0x21c02c008029 [a,b]:=ln _ _
theorem Y8k{a b:Nat}:nD 0xb80f08008525c0009 [a,b]:=ln _ _
theorem Y8l{a b:Nat}:nD 0x20100370604908009 [a,b]:=ln _ _
theorem Y8m{a b:Nat}:nD 0x200869805829 [a,b]:=ln _ _
theorem Y8n{a:Nat}:nD 0x1f46400000000003fc8009 [a]:=ln _ _
theorem Y8o{a b:Nat}:nD 0x1160160869805829 [a,b]:=ln _ _
theorem Y8p{a b:Nat}:nD 0x12e0160869805829 [a,b]:=ln _ _
theorem Y8q{a:Nat}:nD 0xce464010000000fa0c8029 [a]:=ln _ _
theorem Y8r:∀{a:Int},a<26->a<2 ^ 63:=by intros;(first|lia|omega)
theorem Y8s{a:Int}:iD 0x358e009ac0089 [a]:=li _ _
theorem Y8t:∀{a:Int},a<26->Int.toNat a<26:=by intros;(first|lia|omega)
theorem Y8u{a:Nat}:nD 0x30e4170000000061cd80200000000030e409 [a]:=ln _ _
theorem Y8v{a:Nat}:nD 0x35800400000001ef200000000061cd829 [a]:=ln _ _
theorem Y8w{a:Nat}:nD 0x880006401000000007bc80200000000061c80e9 [a]:=ln _ _
theorem Y8x{a b:Nat}:nD 0x1ef210840000000187203800000000187360893ac0029 [a,b]:=ln _ _
theorem Y8y{a b:Nat}:nD 0x380e036b0701b0038b5840c0049 [a,b]:=ln _ _
theorem Y8z{a:Nat}:nD 0x700e583805b85 [a]:=ln _ _
theorem Y8A{a b:Nat}:a<b->min a b+1+(b-(a+1))=b:=lin (.im (.lt true (.v 0) (.v 1)) (.eq true (.a (.a (.mn (.v 0) (.v 1)) (.k 1)) (.s (.v 1) (.a (.v 0) (.k 1)))) (.v 1))) [a,b] [] (by kernel_rfl!)
theorem Y8B{a:Int} {b:Nat}:mD 0x1c06080e0038b152006069 [b] [a]:=lm _ _ _
theorem Y8C{a:Int} {b:Nat}:mD 0x601c2981c0112006069 [b] [a]:=lm _ _ _
theorem Y8D:∀{a:Int} {b:Nat},a<12->1+a=(↑b:Int)->(↑b:Int)<2 ^ 62:=by intros;(first|lia|omega)
theorem Y8E{a:Int} {b:Nat}:mD 0x1000000c8000e0038b152cc0089 [b] [a]:=lm _ _ _
theorem Y8F:∀{a:Int} {b c:Nat},a<12->1+a=(↑b:Int)->c=b->c*1≤16777216:=by intros;(first|lia|omega)
theorem Y8G{a:Int} {b c:Nat}:mD 0x1000000c840008920e0038b152cc0089 [b,c] [a]:=lm _ _ _
theorem Y8H{a:Int} {b c d e:Nat}:mD 0x8000006443b0023024381092008920e0038b152cc0089 [b,c,d,e] [a]:=lm _ _ _
theorem Y8I{a:Int} {b c d e f:Nat}:mD 0x2000001920876b002402423024381092008920e0038b152cc0089 [b,c,d,e,f] [a]:=lm _ _ _
theorem Y8J{a:Int} {b c d:Nat}:mD 0x2084021243c01520e0089 [b,c,d] [a]:=lm _ _ _
theorem Y8K{a:Int} {b c d:Nat}:mD 0x41c00021243c01520e0089 [b,c,d] [a]:=lm _ _ _
theorem Y8L{a:Int} {b c:Nat}:mD 0xcc040008920e0038b152cc0089 [b,c] [a]:=lm _ _ _
theorem Y8M{a b:Nat}:nD 0x1464000000000028c840908049 [a,b]:=ln _ _
theorem Y8N{a b:Nat}:nD 0x1e64000000000028c840908049 [a,b]:=ln _ _
theorem Y8O{a:Int}:iD 0x1dcd65006403003b9aca01c8089 [a]:=li _ _
theorem Y8P:∀{a:Int},a<5->Int.toNat a≤30:=by intros;(first|lia|omega)
theorem Y8Q:∀{a:Nat},a≤30->(↑a:Int)<2 ^ 62:=by intros;(first|lia|omega)
theorem Y8R{a b c:Nat}:nD 0x8702b0438058424849805829 [a,b,c]:=ln _ _
theorem Y8S{a b:Nat}:nD 0x1000000c84000853ec0009 [a,b]:=ln _ _
theorem Y8T{a b:Nat}:nD 0x1ec04000813ec0009 [a,b]:=ln _ _
theorem Y8U{a b:Nat}:nD 0x8ca32108f00b04490000001f40c8029 [a,b]:=ln _ _
theorem Y8V{a b:Int}:iD 0x40308069 [a,b]:=li _ _
theorem Y8W{a:Nat}:nD 0x119464010000001f40c8029 [a]:=ln _ _
theorem Y8X{a b:Nat}:nD 0x1260160869805829 [a,b]:=ln _ _
theorem Y8Y:∀{a:Nat} {b:Prop},(1≤a∧a≤12)∧b->a≤1000:=by intros;(first|lia|omega)
theorem Y8Z{a b:Nat}:nD 0x146420004490000000028c8009 [a,b]:=ln _ _
theorem Y90{a b c:Nat}:nD 0x28c800000000005190e0560d80908009 [a,b,c]:=ln _ _
theorem Y91{a:Nat}:nD 0x80000064000000000028c8009 [a]:=ln _ _
theorem Y92{a b:Nat}:nD 0x146420004090000000028c8009 [a,b]:=ln _ _
theorem Y93{a b:Nat}:nD 0x1360160869805829 [a,b]:=ln _ _
theorem Y94{a:Nat}:nD 0xd1664010000000fa0c8029 [a]:=ln _ _
theorem Y95{a:Nat}:nD 0x200000190e0170e2c000000003e8c8009 [a]:=ln _ _
theorem Y96{a:Nat}:nD 0x206400000000003fc8009 [a]:=ln _ _
theorem Y97{a:Nat}:nD 0x320c819a062c00000000040c8009 [a]:=ln _ _
theorem Y98{a b c:Nat}:nD 0x8ca322000404800000019064380d99a05809 [a,b,c]:=ln _ _
theorem Y99{a b:Nat}:nD 0x64190b34cc02d60000000019064380d99a05809 [a,b]:=ln _ _
theorem Y9a{a b:Nat}:nD 0x11946420004090000000320c8009 [a,b]:=ln _ _
theorem Y9b{a b c d e:Nat}:nD 0x28820a461c06c14803820ed602441b0049 [a,b,c,d,e]:=ln _ _
theorem Y9c{a b c d e:Nat}:nD 0x5003820ed602483b0820b5849 [a,b,c,d,e]:=ln _ _
theorem Y9d{a b c:Nat}:nD 0x410e040b5ee11042908009 [a,b,c]:=ln _ _
theorem Y9e{a:Nat}:nD 0xbb864010000000fa0c8029 [a]:=ln _ _
theorem Y9f{a b c d e f:Int}:iD 0xca3090a70908811480214e02110918861014e101109 [a,b,c,d,e,f]:=li _ _
theorem Y9g{a:Nat}:nD 0x281c07089 [a]:=ln _ _
theorem Y9h{a b:Int}:iD 0x1b046006069 [a,b]:=li _ _
theorem Y9i{a b:Nat} {c:Int}:mD 0x7802001819c1c01000c0ce908009 [a,b] [c]:=lm _ _ _
theorem Y9j{a:Nat}:nD 0x119464010000002328c8029 [a]:=ln _ _
theorem Y9k{a:Nat}:nD 0x9ab320c02c10000002328c8029 [a]:=ln _ _
theorem Y9l{a b:Nat}:nD 0x20000019082c00000002328c84090000002328c8009 [a,b]:=ln _ _
theorem Y9m{a b:Nat}:nD 0x30d419082c00000002328c84090000002328c8009 [a,b]:=ln _ _
theorem Y9n:∀{a:Nat} {b:Int},a≤9000->0≤b∧b<(↑a:Int)->b<2 ^ 63:=by intros;(first|lia|omega)
theorem Y9o{a b:Nat}:nD 0x465190e03600701b00490000002328c8009 [a,b]:=ln _ _
theorem Y9p{a b:Nat}:nD 0x4d5990e03605821c04090000001f40c8029 [a,b]:=ln _ _
theorem Y9q:∀{a:Nat} {b:Int},a≤9000->Int.toNat b<a->b<2 ^ 63:=by intros;(first|lia|omega)
theorem Y9r{a b c:Nat}:nD 0x46519102c00000000fa0c84090880908009 [a,b,c]:=ln _ _
theorem Y9s{a b:Nat}:nD 0x119464000000000fa0c840908009 [a,b]:=ln _ _
theorem Y9t{a b:Nat}:nD 0x6d632108f00b04490000001770c8029 [a,b]:=ln _ _
theorem Y9u{a b:Nat}:nD 0x465190000000008ca32105809 [a,b]:=ln _ _
theorem Y9v{a b:Nat}:nD 0x465190800000008ca32105809 [a,b]:=ln _ _
theorem Y9w{a:Nat}:nD 0x119464010000002327c8009 [a]:=ln _ _
theorem Y9x{a:Nat}:nD 0x80000064010000002328c8029 [a]:=ln _ _
theorem Y9y{a b c:Nat}:nD 0x11946440082c20240000008ca32105809 [a,b,c]:=ln _ _
theorem Y9z{a b:Nat}:nD 0x1f419660160000000019064380d99a05809 [a,b]:=ln _ _
theorem Y9A{a b:Nat}:nD 0xcc06c1c02c008009 [a,b]:=ln _ _
theorem Y9B{a:Nat}:nD 0x119464000000000fa0c8009 [a]:=ln _ _
theorem Y9C{a b:Nat} {c:Int} {d e f:Nat}:mD 0x1f4190e0961d8022052018122e00a96e0044800000019064380d99a05809 [a,b,d,e,f] [c]:=lm _ _ _
theorem Y9D{a b c:Nat}:nD 0x1c0ac1b0700b0041b0009 [a,b,c]:=ln _ _
theorem Y9E{a:Int} {b c d e f:Nat}:mD 0x19815880186c402403024410241c0152dc0089 [b,c,d,e,f] [a]:=lm _ _ _
theorem Z3U{α:Type} (i:Nonempty α) (G:α->Prop):Nonempty {x:α // G x->∀y,G y}:=by
 by_cases h:∃x,¬G x
 ·exact h.elim fun x n=>⟨⟨x,fun g=>absurd g n⟩⟩
 ·exact i.elim fun x=>⟨⟨x,fun _ y=>Classical.byContradiction fun n=>h ⟨y,n⟩⟩⟩
@[irreducible] noncomputable def ep1 {α:Type} (i:Nonempty α) (G:α->Prop):α:=(Classical.choice (Z3U i G)).1
theorem epI1{α:Type} (i:Nonempty α) {G:α->Prop} (h:G (ep1 i G)):∀x,G x:=by
 unfold ep1 at h;exact(Classical.choice (Z3U i G)).2 h
theorem ne2{α β:Type} (a:Nonempty α) (b:Nonempty β):Nonempty (α×β):=a.elim fun x=>b.elim fun y=>⟨(x,y)⟩
@[irreducible] noncomputable def ep2{a b:Type}(i:Nonempty (a×b))(G:a->b->Prop):a×b:=ep1 i fun p=>G p.1 p.2
theorem epI2{a b:Type}(i:Nonempty (a×b)){G:a->b->Prop}(h:G (ep2 i G).1 (ep2 i G).2):∀A B,G A B:=fun A B=>epI1 i (G:=fun p=>G p.1 p.2) (by with_unfolding_all exact h) (A,B)
@[irreducible] noncomputable def ep3{a b c:Type}(i:Nonempty (a×b×c))(G:a->b->c->Prop):a×b×c:=ep1 i fun p=>G p.1 p.2.1 p.2.2
theorem epI3{a b c:Type}(i:Nonempty (a×b×c)){G:a->b->c->Prop}(h:G (ep3 i G).1 (ep3 i G).2.1 (ep3 i G).2.2):∀A B C,G A B C:=fun A B C=>epI1 i (G:=fun p=>G p.1 p.2.1 p.2.2) (by with_unfolding_all exact h) (A,B,C)
@[irreducible] noncomputable def ep4{a b c d:Type}(i:Nonempty (a×b×c×d))(G:a->b->c->d->Prop):a×b×c×d:=ep1 i fun p=>G p.1 p.2.1 p.2.2.1 p.2.2.2
theorem epI4{a b c d:Type}(i:Nonempty (a×b×c×d)){G:a->b->c->d->Prop}(h:G (ep4 i G).1 (ep4 i G).2.1 (ep4 i G).2.2.1 (ep4 i G).2.2.2):∀A B C D,G A B C D:=fun A B C D=>epI1 i (G:=fun p=>G p.1 p.2.1 p.2.2.1 p.2.2.2) (by with_unfolding_all exact h) (A,B,C,D)
@[irreducible] noncomputable def ep5{a b c d e:Type}(i:Nonempty (a×b×c×d×e))(G:a->b->c->d->e->Prop):a×b×c×d×e:=ep1 i fun p=>G p.1 p.2.1 p.2.2.1 p.2.2.2.1 p.2.2.2.2
theorem epI5{a b c d e:Type}(i:Nonempty (a×b×c×d×e)){G:a->b->c->d->e->Prop}(h:G (ep5 i G).1 (ep5 i G).2.1 (ep5 i G).2.2.1 (ep5 i G).2.2.2.1 (ep5 i G).2.2.2.2):∀A B C D E,G A B C D E:=fun A B C D E=>epI1 i (G:=fun p=>G p.1 p.2.1 p.2.2.1 p.2.2.2.1 p.2.2.2.2) (by with_unfolding_all exact h) (A,B,C,D,E)
@[irreducible] noncomputable def ep6{a b c d e f:Type}(i:Nonempty (a×b×c×d×e×f))(G:a->b->c->d->e->f->Prop):a×b×c×d×e×f:=ep1 i fun p=>G p.1 p.2.1 p.2.2.1 p.2.2.2.1 p.2.2.2.2.1 p.2.2.2.2.2
theorem epI6{a b c d e f:Type}(i:Nonempty (a×b×c×d×e×f)){G:a->b->c->d->e->f->Prop}(h:G (ep6 i G).1 (ep6 i G).2.1 (ep6 i G).2.2.1 (ep6 i G).2.2.2.1 (ep6 i G).2.2.2.2.1 (ep6 i G).2.2.2.2.2):∀A B C D E F,G A B C D E F:=fun A B C D E F=>epI1 i (G:=fun p=>G p.1 p.2.1 p.2.2.1 p.2.2.2.1 p.2.2.2.2.1 p.2.2.2.2.2) (by with_unfolding_all exact h) (A,B,C,D,E,F)
@[irreducible] noncomputable def ep7{a b c d e f j:Type}(i:Nonempty (a×b×c×d×e×f×j))(G:a->b->c->d->e->f->j->Prop):a×b×c×d×e×f×j:=ep1 i fun p=>G p.1 p.2.1 p.2.2.1 p.2.2.2.1 p.2.2.2.2.1 p.2.2.2.2.2.1 p.2.2.2.2.2.2
theorem epI7{a b c d e f j:Type}(i:Nonempty (a×b×c×d×e×f×j)){G:a->b->c->d->e->f->j->Prop}(h:G (ep7 i G).1 (ep7 i G).2.1 (ep7 i G).2.2.1 (ep7 i G).2.2.2.1 (ep7 i G).2.2.2.2.1 (ep7 i G).2.2.2.2.2.1 (ep7 i G).2.2.2.2.2.2):∀A B C D E F J,G A B C D E F J:=fun A B C D E F J=>epI1 i (G:=fun p=>G p.1 p.2.1 p.2.2.1 p.2.2.2.1 p.2.2.2.2.1 p.2.2.2.2.2.1 p.2.2.2.2.2.2) (by with_unfolding_all exact h) (A,B,C,D,E,F,J)
@[irreducible] noncomputable def ep8{a b c d e f j k:Type}(i:Nonempty (a×b×c×d×e×f×j×k))(G:a->b->c->d->e->f->j->k->Prop):a×b×c×d×e×f×j×k:=ep1 i fun p=>G p.1 p.2.1 p.2.2.1 p.2.2.2.1 p.2.2.2.2.1 p.2.2.2.2.2.1 p.2.2.2.2.2.2.1 p.2.2.2.2.2.2.2
theorem epI8{a b c d e f j k:Type}(i:Nonempty (a×b×c×d×e×f×j×k)){G:a->b->c->d->e->f->j->k->Prop}(h:G (ep8 i G).1 (ep8 i G).2.1 (ep8 i G).2.2.1 (ep8 i G).2.2.2.1 (ep8 i G).2.2.2.2.1 (ep8 i G).2.2.2.2.2.1 (ep8 i G).2.2.2.2.2.2.1 (ep8 i G).2.2.2.2.2.2.2):∀A B C D E F J K,G A B C D E F J K:=fun A B C D E F J K=>epI1 i (G:=fun p=>G p.1 p.2.1 p.2.2.1 p.2.2.2.1 p.2.2.2.2.1 p.2.2.2.2.2.1 p.2.2.2.2.2.2.1 p.2.2.2.2.2.2.2) (by with_unfolding_all exact h) (A,B,C,D,E,F,J,K)
@[irreducible] noncomputable def ep9{a b c d e f j k l:Type}(i:Nonempty (a×b×c×d×e×f×j×k×l))(G:a->b->c->d->e->f->j->k->l->Prop):a×b×c×d×e×f×j×k×l:=ep1 i fun p=>G p.1 p.2.1 p.2.2.1 p.2.2.2.1 p.2.2.2.2.1 p.2.2.2.2.2.1 p.2.2.2.2.2.2.1 p.2.2.2.2.2.2.2.1 p.2.2.2.2.2.2.2.2
theorem epI9{a b c d e f j k l:Type}(i:Nonempty (a×b×c×d×e×f×j×k×l)){G:a->b->c->d->e->f->j->k->l->Prop}(h:G (ep9 i G).1 (ep9 i G).2.1 (ep9 i G).2.2.1 (ep9 i G).2.2.2.1 (ep9 i G).2.2.2.2.1 (ep9 i G).2.2.2.2.2.1 (ep9 i G).2.2.2.2.2.2.1 (ep9 i G).2.2.2.2.2.2.2.1 (ep9 i G).2.2.2.2.2.2.2.2):∀A B C D E F J K L,G A B C D E F J K L:=fun A B C D E F J K L=>epI1 i (G:=fun p=>G p.1 p.2.1 p.2.2.1 p.2.2.2.1 p.2.2.2.2.1 p.2.2.2.2.2.1 p.2.2.2.2.2.2.1 p.2.2.2.2.2.2.2.1 p.2.2.2.2.2.2.2.2) (by with_unfolding_all exact h) (A,B,C,D,E,F,J,K,L)
@[irreducible] noncomputable def ep10{a b c d e f j k l m:Type}(i:Nonempty (a×b×c×d×e×f×j×k×l×m))(G:a->b->c->d->e->f->j->k->l->m->Prop):a×b×c×d×e×f×j×k×l×m:=ep1 i fun p=>G p.1 p.2.1 p.2.2.1 p.2.2.2.1 p.2.2.2.2.1 p.2.2.2.2.2.1 p.2.2.2.2.2.2.1 p.2.2.2.2.2.2.2.1 p.2.2.2.2.2.2.2.2.1 p.2.2.2.2.2.2.2.2.2
theorem Z6l{a b c d e f j k l m:Type}(i:Nonempty (a×b×c×d×e×f×j×k×l×m)){G:a->b->c->d->e->f->j->k->l->m->Prop}(h:G (ep10 i G).1 (ep10 i G).2.1 (ep10 i G).2.2.1 (ep10 i G).2.2.2.1 (ep10 i G).2.2.2.2.1 (ep10 i G).2.2.2.2.2.1 (ep10 i G).2.2.2.2.2.2.1 (ep10 i G).2.2.2.2.2.2.2.1 (ep10 i G).2.2.2.2.2.2.2.2.1 (ep10 i G).2.2.2.2.2.2.2.2.2):∀A B C D E F J K L M,G A B C D E F J K L M:=fun A B C D E F J K L M=>epI1 i (G:=fun p=>G p.1 p.2.1 p.2.2.1 p.2.2.2.1 p.2.2.2.2.1 p.2.2.2.2.2.1 p.2.2.2.2.2.2.1 p.2.2.2.2.2.2.2.1 p.2.2.2.2.2.2.2.2.1 p.2.2.2.2.2.2.2.2.2) (by with_unfolding_all exact h) (A,B,C,D,E,F,J,K,L,M)
@[irreducible] noncomputable def ep11{a b c d e f j k l m n:Type}(i:Nonempty (a×b×c×d×e×f×j×k×l×m×n))(G:a->b->c->d->e->f->j->k->l->m->n->Prop):a×b×c×d×e×f×j×k×l×m×n:=ep1 i fun p=>G p.1 p.2.1 p.2.2.1 p.2.2.2.1 p.2.2.2.2.1 p.2.2.2.2.2.1 p.2.2.2.2.2.2.1 p.2.2.2.2.2.2.2.1 p.2.2.2.2.2.2.2.2.1 p.2.2.2.2.2.2.2.2.2.1 p.2.2.2.2.2.2.2.2.2.2
theorem Z6m{a b c d e f j k l m n:Type}(i:Nonempty (a×b×c×d×e×f×j×k×l×m×n)){G:a->b->c->d->e->f->j->k->l->m->n->Prop}(h:G (ep11 i G).1 (ep11 i G).2.1 (ep11 i G).2.2.1 (ep11 i G).2.2.2.1 (ep11 i G).2.2.2.2.1 (ep11 i G).2.2.2.2.2.1 (ep11 i G).2.2.2.2.2.2.1 (ep11 i G).2.2.2.2.2.2.2.1 (ep11 i G).2.2.2.2.2.2.2.2.1 (ep11 i G).2.2.2.2.2.2.2.2.2.1 (ep11 i G).2.2.2.2.2.2.2.2.2.2):∀A B C D E F J K L M N,G A B C D E F J K L M N:=fun A B C D E F J K L M N=>epI1 i (G:=fun p=>G p.1 p.2.1 p.2.2.1 p.2.2.2.1 p.2.2.2.2.1 p.2.2.2.2.2.1 p.2.2.2.2.2.2.1 p.2.2.2.2.2.2.2.1 p.2.2.2.2.2.2.2.2.1 p.2.2.2.2.2.2.2.2.2.1 p.2.2.2.2.2.2.2.2.2.2) (by with_unfolding_all exact h) (A,B,C,D,E,F,J,K,L,M,N)
@[irreducible] noncomputable def ep12{a b c d e f j k l m n q:Type}(i:Nonempty (a×b×c×d×e×f×j×k×l×m×n×q))(G:a->b->c->d->e->f->j->k->l->m->n->q->Prop):a×b×c×d×e×f×j×k×l×m×n×q:=ep1 i fun p=>G p.1 p.2.1 p.2.2.1 p.2.2.2.1 p.2.2.2.2.1 p.2.2.2.2.2.1 p.2.2.2.2.2.2.1 p.2.2.2.2.2.2.2.1 p.2.2.2.2.2.2.2.2.1 p.2.2.2.2.2.2.2.2.2.1 p.2.2.2.2.2.2.2.2.2.2.1 p.2.2.2.2.2.2.2.2.2.2.2
theorem Z6n{a b c d e f j k l m n q:Type}(i:Nonempty (a×b×c×d×e×f×j×k×l×m×n×q)){G:a->b->c->d->e->f->j->k->l->m->n->q->Prop}(h:G (ep12 i G).1 (ep12 i G).2.1 (ep12 i G).2.2.1 (ep12 i G).2.2.2.1 (ep12 i G).2.2.2.2.1 (ep12 i G).2.2.2.2.2.1 (ep12 i G).2.2.2.2.2.2.1 (ep12 i G).2.2.2.2.2.2.2.1 (ep12 i G).2.2.2.2.2.2.2.2.1 (ep12 i G).2.2.2.2.2.2.2.2.2.1 (ep12 i G).2.2.2.2.2.2.2.2.2.2.1 (ep12 i G).2.2.2.2.2.2.2.2.2.2.2):∀A B C D E F J K L M N Q,G A B C D E F J K L M N Q:=fun A B C D E F J K L M N Q=>epI1 i (G:=fun p=>G p.1 p.2.1 p.2.2.1 p.2.2.2.1 p.2.2.2.2.1 p.2.2.2.2.2.1 p.2.2.2.2.2.2.1 p.2.2.2.2.2.2.2.1 p.2.2.2.2.2.2.2.2.1 p.2.2.2.2.2.2.2.2.2.1 p.2.2.2.2.2.2.2.2.2.2.1 p.2.2.2.2.2.2.2.2.2.2.2) (by with_unfolding_all exact h) (A,B,C,D,E,F,J,K,L,M,N,Q)
@[irreducible] noncomputable def ep13{a b c d e f j k l m n q r:Type}(i:Nonempty (a×b×c×d×e×f×j×k×l×m×n×q×r))(G:a->b->c->d->e->f->j->k->l->m->n->q->r->Prop):a×b×c×d×e×f×j×k×l×m×n×q×r:=ep1 i fun p=>G p.1 p.2.1 p.2.2.1 p.2.2.2.1 p.2.2.2.2.1 p.2.2.2.2.2.1 p.2.2.2.2.2.2.1 p.2.2.2.2.2.2.2.1 p.2.2.2.2.2.2.2.2.1 p.2.2.2.2.2.2.2.2.2.1 p.2.2.2.2.2.2.2.2.2.2.1 p.2.2.2.2.2.2.2.2.2.2.2.1 p.2.2.2.2.2.2.2.2.2.2.2.2
theorem Z6o{a b c d e f j k l m n q r:Type}(i:Nonempty (a×b×c×d×e×f×j×k×l×m×n×q×r)){G:a->b->c->d->e->f->j->k->l->m->n->q->r->Prop}(h:G (ep13 i G).1 (ep13 i G).2.1 (ep13 i G).2.2.1 (ep13 i G).2.2.2.1 (ep13 i G).2.2.2.2.1 (ep13 i G).2.2.2.2.2.1 (ep13 i G).2.2.2.2.2.2.1 (ep13 i G).2.2.2.2.2.2.2.1 (ep13 i G).2.2.2.2.2.2.2.2.1 (ep13 i G).2.2.2.2.2.2.2.2.2.1 (ep13 i G).2.2.2.2.2.2.2.2.2.2.1 (ep13 i G).2.2.2.2.2.2.2.2.2.2.2.1 (ep13 i G).2.2.2.2.2.2.2.2.2.2.2.2):∀A B C D E F J K L M N Q R,G A B C D E F J K L M N Q R:=fun A B C D E F J K L M N Q R=>epI1 i (G:=fun p=>G p.1 p.2.1 p.2.2.1 p.2.2.2.1 p.2.2.2.2.1 p.2.2.2.2.2.1 p.2.2.2.2.2.2.1 p.2.2.2.2.2.2.2.1 p.2.2.2.2.2.2.2.2.1 p.2.2.2.2.2.2.2.2.2.1 p.2.2.2.2.2.2.2.2.2.2.1 p.2.2.2.2.2.2.2.2.2.2.2.1 p.2.2.2.2.2.2.2.2.2.2.2.2) (by with_unfolding_all exact h) (A,B,C,D,E,F,J,K,L,M,N,Q,R)
@[irreducible] noncomputable def ep14{a b c d e f j k l m n q r s:Type}(i:Nonempty (a×b×c×d×e×f×j×k×l×m×n×q×r×s))(G:a->b->c->d->e->f->j->k->l->m->n->q->r->s->Prop):a×b×c×d×e×f×j×k×l×m×n×q×r×s:=ep1 i fun p=>G p.1 p.2.1 p.2.2.1 p.2.2.2.1 p.2.2.2.2.1 p.2.2.2.2.2.1 p.2.2.2.2.2.2.1 p.2.2.2.2.2.2.2.1 p.2.2.2.2.2.2.2.2.1 p.2.2.2.2.2.2.2.2.2.1 p.2.2.2.2.2.2.2.2.2.2.1 p.2.2.2.2.2.2.2.2.2.2.2.1 p.2.2.2.2.2.2.2.2.2.2.2.2.1 p.2.2.2.2.2.2.2.2.2.2.2.2.2
theorem Z6p{a b c d e f j k l m n q r s:Type}(i:Nonempty (a×b×c×d×e×f×j×k×l×m×n×q×r×s)){G:a->b->c->d->e->f->j->k->l->m->n->q->r->s->Prop}(h:G (ep14 i G).1 (ep14 i G).2.1 (ep14 i G).2.2.1 (ep14 i G).2.2.2.1 (ep14 i G).2.2.2.2.1 (ep14 i G).2.2.2.2.2.1 (ep14 i G).2.2.2.2.2.2.1 (ep14 i G).2.2.2.2.2.2.2.1 (ep14 i G).2.2.2.2.2.2.2.2.1 (ep14 i G).2.2.2.2.2.2.2.2.2.1 (ep14 i G).2.2.2.2.2.2.2.2.2.2.1 (ep14 i G).2.2.2.2.2.2.2.2.2.2.2.1 (ep14 i G).2.2.2.2.2.2.2.2.2.2.2.2.1 (ep14 i G).2.2.2.2.2.2.2.2.2.2.2.2.2):∀A B C D E F J K L M N Q R S,G A B C D E F J K L M N Q R S:=fun A B C D E F J K L M N Q R S=>epI1 i (G:=fun p=>G p.1 p.2.1 p.2.2.1 p.2.2.2.1 p.2.2.2.2.1 p.2.2.2.2.2.1 p.2.2.2.2.2.2.1 p.2.2.2.2.2.2.2.1 p.2.2.2.2.2.2.2.2.1 p.2.2.2.2.2.2.2.2.2.1 p.2.2.2.2.2.2.2.2.2.2.1 p.2.2.2.2.2.2.2.2.2.2.2.1 p.2.2.2.2.2.2.2.2.2.2.2.2.1 p.2.2.2.2.2.2.2.2.2.2.2.2.2) (by with_unfolding_all exact h) (A,B,C,D,E,F,J,K,L,M,N,Q,R,S)
@[irreducible] noncomputable def ep15{a b c d e f j k l m n q r s t:Type}(i:Nonempty (a×b×c×d×e×f×j×k×l×m×n×q×r×s×t))(G:a->b->c->d->e->f->j->k->l->m->n->q->r->s->t->Prop):a×b×c×d×e×f×j×k×l×m×n×q×r×s×t:=ep1 i fun p=>G p.1 p.2.1 p.2.2.1 p.2.2.2.1 p.2.2.2.2.1 p.2.2.2.2.2.1 p.2.2.2.2.2.2.1 p.2.2.2.2.2.2.2.1 p.2.2.2.2.2.2.2.2.1 p.2.2.2.2.2.2.2.2.2.1 p.2.2.2.2.2.2.2.2.2.2.1 p.2.2.2.2.2.2.2.2.2.2.2.1 p.2.2.2.2.2.2.2.2.2.2.2.2.1 p.2.2.2.2.2.2.2.2.2.2.2.2.2.1 p.2.2.2.2.2.2.2.2.2.2.2.2.2.2
theorem Z6q{a b c d e f j k l m n q r s t:Type}(i:Nonempty (a×b×c×d×e×f×j×k×l×m×n×q×r×s×t)){G:a->b->c->d->e->f->j->k->l->m->n->q->r->s->t->Prop}(h:G (ep15 i G).1 (ep15 i G).2.1 (ep15 i G).2.2.1 (ep15 i G).2.2.2.1 (ep15 i G).2.2.2.2.1 (ep15 i G).2.2.2.2.2.1 (ep15 i G).2.2.2.2.2.2.1 (ep15 i G).2.2.2.2.2.2.2.1 (ep15 i G).2.2.2.2.2.2.2.2.1 (ep15 i G).2.2.2.2.2.2.2.2.2.1 (ep15 i G).2.2.2.2.2.2.2.2.2.2.1 (ep15 i G).2.2.2.2.2.2.2.2.2.2.2.1 (ep15 i G).2.2.2.2.2.2.2.2.2.2.2.2.1 (ep15 i G).2.2.2.2.2.2.2.2.2.2.2.2.2.1 (ep15 i G).2.2.2.2.2.2.2.2.2.2.2.2.2.2):∀A B C D E F J K L M N Q R S T,G A B C D E F J K L M N Q R S T:=fun A B C D E F J K L M N Q R S T=>epI1 i (G:=fun p=>G p.1 p.2.1 p.2.2.1 p.2.2.2.1 p.2.2.2.2.1 p.2.2.2.2.2.1 p.2.2.2.2.2.2.1 p.2.2.2.2.2.2.2.1 p.2.2.2.2.2.2.2.2.1 p.2.2.2.2.2.2.2.2.2.1 p.2.2.2.2.2.2.2.2.2.2.1 p.2.2.2.2.2.2.2.2.2.2.2.1 p.2.2.2.2.2.2.2.2.2.2.2.2.1 p.2.2.2.2.2.2.2.2.2.2.2.2.2.1 p.2.2.2.2.2.2.2.2.2.2.2.2.2.2) (by with_unfolding_all exact h) (A,B,C,D,E,F,J,K,L,M,N,Q,R,S,T)
theorem ew_lay:True:=by
 k_with "ne"=>(first|(with_reducible refine ne2 ?_ ?_<;>k_extra "ne")|exact inferInstance|with_reducible exact cx_ne|with_reducible exact Z6s|with_reducible exact Z6t|with_reducible exact o_ne|with_reducible exact w_ne|with_reducible exact Z6u|with_reducible exact Z6v|with_reducible exact kd_ne|with_reducible exact Z6w|with_reducible exact Z6x|with_reducible exact Z6y|with_reducible exact Z6J|with_reducible exact Z6K|with_reducible exact Z6F|with_reducible exact Z6L|with_reducible exact Z6I|with_reducible exact Z6G|with_reducible exact Z6H|with_reducible exact Z6E|with_reducible exact sa_ne|with_reducible exact q10_ne|with_reducible exact xf_ne|with_reducible exact xo_ne|with_reducible exact xb_ne|with_reducible exact xa_ne)
 k_with "e1"=>(refine @epI1 _ (by k_extra "ne") _ ?_;generalize ep1 _ _=A;revert A)
 k_with "e2"=>(refine @epI2 _ _ (by k_extra "ne") _ ?_;generalize ep2 _ _=T;generalize T.1=A,T.2=B;clear T;revert A B)
 k_with "e3"=>(refine @epI3 _ _ _ (by k_extra "ne") _ ?_;generalize ep3 _ _=T;generalize T.1=A,T.2.1=B,T.2.2=C;clear T;revert A B C)
 k_with "e4"=>(refine @epI4 _ _ _ _ (by k_extra "ne") _ ?_;generalize ep4 _ _=T;generalize T.1=A,T.2.1=B,T.2.2.1=C,T.2.2.2=D;clear T;revert A B C D)
 k_with "e5"=>(refine @epI5 _ _ _ _ _ (by k_extra "ne") _ ?_;generalize ep5 _ _=T;generalize T.1=A,T.2.1=B,T.2.2.1=C,T.2.2.2.1=D,T.2.2.2.2=E;clear T;revert A B C D E)
 k_with "e6"=>(refine @epI6 _ _ _ _ _ _ (by k_extra "ne") _ ?_;generalize ep6 _ _=T;generalize T.1=A,T.2.1=B,T.2.2.1=C,T.2.2.2.1=D,T.2.2.2.2.1=E,T.2.2.2.2.2=F;clear T;revert A B C D E F)
 k_with "e7"=>(refine @epI7 _ _ _ _ _ _ _ (by k_extra "ne") _ ?_;generalize ep7 _ _=T;generalize T.1=A,T.2.1=B,T.2.2.1=C,T.2.2.2.1=D,T.2.2.2.2.1=E,T.2.2.2.2.2.1=F,T.2.2.2.2.2.2=G;clear T;revert A B C D E F G)
 k_with "e8"=>(refine @epI8 _ _ _ _ _ _ _ _ (by k_extra "ne") _ ?_;generalize ep8 _ _=T;generalize T.1=A,T.2.1=B,T.2.2.1=C,T.2.2.2.1=D,T.2.2.2.2.1=E,T.2.2.2.2.2.1=F,T.2.2.2.2.2.2.1=G,T.2.2.2.2.2.2.2=H;clear T;revert A B C D E F G H)
 k_with "e9"=>(refine @epI9 _ _ _ _ _ _ _ _ _ (by k_extra "ne") _ ?_;generalize ep9 _ _=T;generalize T.1=A,T.2.1=B,T.2.2.1=C,T.2.2.2.1=D,T.2.2.2.2.1=E,T.2.2.2.2.2.1=F,T.2.2.2.2.2.2.1=G,T.2.2.2.2.2.2.2.1=H,T.2.2.2.2.2.2.2.2=I;clear T;revert A B C D E F G H I)
 k_with "e10"=>(refine @Z6l _ _ _ _ _ _ _ _ _ _ (by k_extra "ne") _ ?_;generalize ep10 _ _=T;generalize T.1=A,T.2.1=B,T.2.2.1=C,T.2.2.2.1=D,T.2.2.2.2.1=E,T.2.2.2.2.2.1=F,T.2.2.2.2.2.2.1=G,T.2.2.2.2.2.2.2.1=H,T.2.2.2.2.2.2.2.2.1=I,T.2.2.2.2.2.2.2.2.2=J;clear T;revert A B C D E F G H I J)
 k_with "e11"=>(refine @Z6m _ _ _ _ _ _ _ _ _ _ _ (by k_extra "ne") _ ?_;generalize ep11 _ _=T;generalize T.1=A,T.2.1=B,T.2.2.1=C,T.2.2.2.1=D,T.2.2.2.2.1=E,T.2.2.2.2.2.1=F,T.2.2.2.2.2.2.1=G,T.2.2.2.2.2.2.2.1=H,T.2.2.2.2.2.2.2.2.1=I,T.2.2.2.2.2.2.2.2.2.1=J,T.2.2.2.2.2.2.2.2.2.2=K;clear T;revert A B C D E F G H I J K)
 k_with "e12"=>(refine @Z6n _ _ _ _ _ _ _ _ _ _ _ _ (by k_extra "ne") _ ?_;generalize ep12 _ _=T;generalize T.1=A,T.2.1=B,T.2.2.1=C,T.2.2.2.1=D,T.2.2.2.2.1=E,T.2.2.2.2.2.1=F,T.2.2.2.2.2.2.1=G,T.2.2.2.2.2.2.2.1=H,T.2.2.2.2.2.2.2.2.1=I,T.2.2.2.2.2.2.2.2.2.1=J,T.2.2.2.2.2.2.2.2.2.2.1=K,T.2.2.2.2.2.2.2.2.2.2.2=L;clear T;revert A B C D E F G H I J K L)
 k_with "e13"=>(refine @Z6o _ _ _ _ _ _ _ _ _ _ _ _ _ (by k_extra "ne") _ ?_;generalize ep13 _ _=T;generalize T.1=A,T.2.1=B,T.2.2.1=C,T.2.2.2.1=D,T.2.2.2.2.1=E,T.2.2.2.2.2.1=F,T.2.2.2.2.2.2.1=G,T.2.2.2.2.2.2.2.1=H,T.2.2.2.2.2.2.2.2.1=I,T.2.2.2.2.2.2.2.2.2.1=J,T.2.2.2.2.2.2.2.2.2.2.1=K,T.2.2.2.2.2.2.2.2.2.2.2.1=L,T.2.2.2.2.2.2.2.2.2.2.2.2=M;clear T;revert A B C D E F G H I J K L M)
 k_with "e14"=>(refine @Z6p _ _ _ _ _ _ _ _ _ _ _ _ _ _ (by k_extra "ne") _ ?_;generalize ep14 _ _=T;generalize T.1=A,T.2.1=B,T.2.2.1=C,T.2.2.2.1=D,T.2.2.2.2.1=E,T.2.2.2.2.2.1=F,T.2.2.2.2.2.2.1=G,T.2.2.2.2.2.2.2.1=H,T.2.2.2.2.2.2.2.2.1=I,T.2.2.2.2.2.2.2.2.2.1=J,T.2.2.2.2.2.2.2.2.2.2.1=K,T.2.2.2.2.2.2.2.2.2.2.2.1=L,T.2.2.2.2.2.2.2.2.2.2.2.2.1=M,T.2.2.2.2.2.2.2.2.2.2.2.2.2=N;clear T;revert A B C D E F G H I J K L M N)
 k_with "e15"=>(refine @Z6q _ _ _ _ _ _ _ _ _ _ _ _ _ _ _ (by k_extra "ne") _ ?_;generalize ep15 _ _=T;generalize T.1=A,T.2.1=B,T.2.2.1=C,T.2.2.2.1=D,T.2.2.2.2.1=E,T.2.2.2.2.2.1=F,T.2.2.2.2.2.2.1=G,T.2.2.2.2.2.2.2.1=H,T.2.2.2.2.2.2.2.2.1=I,T.2.2.2.2.2.2.2.2.2.1=J,T.2.2.2.2.2.2.2.2.2.2.1=K,T.2.2.2.2.2.2.2.2.2.2.2.1=L,T.2.2.2.2.2.2.2.2.2.2.2.2.1=M,T.2.2.2.2.2.2.2.2.2.2.2.2.2.1=N,T.2.2.2.2.2.2.2.2.2.2.2.2.2.2=O;clear T;revert A B C D E F G H I J K L M N O)
 trivial
open PySem PySem.W
inductive V where
 | none|bool (b:Bool)|int (i:Int)|str (s:Str)|tup (vs:List V)|rng (a b:Int)|ref (a:Addr)|typ (n:String)|blt (i:String)
 deriving Inhabited
abbrev Zk(items:Array Value) (n:Nat):Obj:={ cls:=.type "tuple",data:=.seq items n }
mutual
inductive VR(h:Heap):Value->V->Prop where
 | none:VR h .none .none
 | bool (b:Bool):VR h (.bool b) (.bool b)
 | int (i:Int) (t:Tok):VR h (.int i t) (.int i)
 | str (s:Str) (t:Tok):VR h (.str s t) (.str s)
 | typ (n:String):VR h (.type n) (.typ n)
 | blt (i:String):VR h (.builtin i) (.blt i)
 | ref (a:Addr):VR h (.ref a) (.ref a)
 | tup {a:Addr} {items:Array Value} {n:Nat} {vs:List V}:h.get? a=some (Zk items n)->VRs h items.toList vs->VR h (.ref a) (.tup vs)
 | rng {r:Addr} {a b:Int} {t u v:Tok}:IsRange h r a b 1 t u v->VR h (.ref r) (.rng a b)
inductive VRs(h:Heap):List Value->List V->Prop where
 | nil:VRs h [] []
 | cons {v:Value} {vs:List Value} {x:V} {xs:List V}:VR h v x->VRs h vs xs->VRs h (v::vs) (x::xs)
end
noncomputable def Imm (o:Obj):Prop:=(∃items n,o=Zk items n)∨(∃vs,o={ cls:=.type "range",data:=.fields vs })∨(o.cls=.type "code" ∧∃vs,o.data=.fields vs)
theorem Imm.tup(items:Array Value) (n:Nat):Imm (Zk items n):=.inl ⟨_,_,rfl⟩
theorem Imm.not{o:Obj} (h1:o.cls≠.type "tuple") (h2:o.cls≠.type "range") (h3:o.cls≠.type "code"):¬Imm o:=by
 rintro(⟨_,_,rfl⟩|⟨_,rfl⟩|⟨e,_⟩)
 ·exact h1 rfl
 ·exact h2 rfl
 ·exact h3 e
theorem Imm.notDict{o:Obj} {es:Array DictEntry} {n:Nat} (h:o.data=.dict es n):¬Imm o:=by
 rintro(⟨_,_,rfl⟩|⟨_,rfl⟩|⟨_,_,e⟩)
 ·cases h
 ·cases h
 ·rw[h]at e;cases e
theorem Imm.notCell{o:Obj} {v:Option Value} (h:o.data=.cell v):¬Imm o:=by
 rintro(⟨_,_,rfl⟩|⟨_,rfl⟩|⟨_,_,e⟩)
 ·cases h
 ·cases h
 ·rw[h]at e;cases e
noncomputable def TupKeep (h h':Heap):Prop:=∀a o,Imm o->h.get? a=some o->h'.get? a=some o
theorem TupKeep.refl(h:Heap):TupKeep h h:=fun _ _ _ e=>e
theorem TupKeep.trans{h1 h2 h3:Heap} (x:TupKeep h1 h2) (y:TupKeep h2 h3):TupKeep h1 h3:=fun a i n e=>y a i n (x a i n e)
mutual
theorem VR.mono{h h':Heap} (k:TupKeep h h') {v:Value} {x:V} (r:VR h v x):VR h' v x:=by
 cases r with
 | none=>exact .none
 | bool b=>exact .bool b
 | int i t=>exact .int i t
 | str s t=>exact .str s t
 | typ n=>exact .typ n
 | blt i=>exact .blt i
 | ref a=>exact .ref a
 | tup e r=>exact .tup (k _ _ (.tup _ _) e) (VRs.mono k r)
 | rng e=>exact .rng (k _ _ (.inr (.inl ⟨_,rfl⟩)) e)
theorem VRs.mono{h h':Heap} (k:TupKeep h h') {v:List Value} {x:List V} (r:VRs h v x):VRs h' v x:=by
 cases r with
 | nil=>exact .nil
 | cons a b=>exact .cons (VR.mono k a) (VRs.mono k b)
end
theorem VR.intI{h:Heap} {v:Value} {i:Int} (r:VR h v (.int i)):∃t,v=.int i t:=by cases r;exact⟨_,rfl⟩
theorem VR.strI{h:Heap} {v:Value} {x:Str} (r:VR h v (.str x)):∃t,v=.str x t:=by cases r;exact⟨_,rfl⟩
theorem VR.boolI{h:Heap} {v:Value} {b:Bool} (r:VR h v (.bool b)):v=.bool b:=by cases r;rfl
theorem VR.noneI{h:Heap} {v:Value} (r:VR h v .none):v=.none:=by cases r;rfl
theorem VR.refI{h:Heap} {v:Value} {a:Addr} (r:VR h v (.ref a)):v=.ref a:=by cases r;rfl
theorem VR.typI{h:Heap} {v:Value} {n:String} (r:VR h v (.typ n)):v=.type n:=by cases r;rfl
theorem VR.bltI{h:Heap} {v:Value} {n:String} (r:VR h v (.blt n)):v=.builtin n:=by cases r;rfl
theorem VR.tupI{h:Heap} {v:Value} {xs:List V} (r:VR h v (.tup xs)):∃(a:Addr) (items:Array Value) (n:Nat),v=.ref a∧h.get? a=some (Zk items n)∧VRs h items.toList xs:=by cases r with|tup e r=>exact⟨_,_,_,rfl,e,r⟩
theorem VRs.nilI{h:Heap} {vs:List Value} (r:VRs h vs []):vs=[]:=by cases r;rfl
theorem VRs.consI{h:Heap} {vs:List Value} {x:V} {xs:List V} (r:VRs h vs (x::xs)):∃u us,vs=u::us∧VR h u x∧VRs h us xs:=by cases r with|cons a b=>exact⟨_,_,rfl,a,b⟩
theorem VRs.one{h:Heap} {vs:List Value} {x:V} (r:VRs h vs [x]):∃u,vs=[u]∧VR h u x:=by
 obtain⟨u,us,rfl,r1,r2⟩:=r.consI
 obtain rfl:=r2.nilI
 exact⟨u,rfl,r1⟩
theorem VRs.two{h:Heap} {vs:List Value} {x y:V} (r:VRs h vs [x,y]):∃u v,vs=[u,v]∧VR h u x∧VR h v y:=by
 obtain⟨u,us,rfl,r1,r2⟩:=r.consI
 obtain⟨v,rfl,r3⟩:=r2.one
 exact⟨u,v,rfl,r1,r3⟩
theorem VRs.three{h:Heap} {vs:List Value} {x y z:V} (r:VRs h vs [x,y,z]):∃u v w,vs=[u,v,w]∧VR h u x∧VR h v y∧VR h w z:=by
 obtain⟨u,us,rfl,r1,r2⟩:=r.consI
 obtain⟨v,w,rfl,r3,r4⟩:=r2.two
 exact⟨u,v,w,rfl,r1,r3,r4⟩
theorem VRs.ind{h:Heap} {P:List Value->List V->Prop} (n:P [] []) (c:∀{v vs x xs},VR h v x->VRs h vs xs->P vs xs->P (v::vs) (x::xs)):∀{xs:List V} {vs:List Value},VRs h vs xs->P vs xs:=by
 intro xs
 induction xs with
 | nil=>intro vs r;obtain rfl:=r.nilI;exact n
 | cons x xs ih=>
  intro vs r
  obtain⟨u,us,rfl,a,b⟩:=r.consI
  exact c a b (ih b)
theorem VRs.length{h:Heap} {v:List Value} {x:List V} (r:VRs h v x):v.length=x.length:=r.ind (P:=fun v x=>v.length=x.length) rfl fun _ _ ih=>congrArg (·+1) ih
theorem VRs.append{h:Heap} {v:List Value} {x:List V} {v':List Value} {x':List V} (r:VRs h v x) (r':VRs h v' x'):VRs h (v++v') (x++x'):=
 r.ind (P:=fun v x=>VRs h (v++v') (x++x')) r' fun a _ ih=>.cons a ih
theorem VRs.get{h:Heap} {v:List Value} {x:List V} (r:VRs h v x):∀{i:Nat} {y:V},x[i]?=some y->∃u,v[i]?=some u∧VR h u y:=by
 refine r.ind (P:=fun v x=>∀{i:Nat} {y:V},x[i]?=some y->∃u,v[i]?=some u∧VR h u y) (fun e=>nomatch e) fun a _ ih=>?_
 intro i y e
 cases i with
 | zero=>cases e;exact⟨_,rfl,a⟩
 | succ i=>exact ih e
theorem VRs.get'{h:Heap} {v:List Value} {x:List V} (r:VRs h v x):∀{i:Nat} {u:Value},v[i]?=some u->∃y,x[i]?=some y∧VR h u y:=by
 refine r.ind (P:=fun v x=>∀{i:Nat} {u:Value},v[i]?=some u->∃y,x[i]?=some y∧VR h u y) (fun e=>nomatch e) fun a _ ih=>?_
 intro i y e
 cases i with
 | zero=>cases e;exact⟨_,rfl,a⟩
 | succ i=>exact ih e
structure Cx where
 prog:Program
 w:World
 h₀:Heap
 gens:Array GenState
 os:OsState
 n₀:Nat
 low:∀b o,h₀.get? b=some o->b<n₀
 top:∀m,n₀=m+1->∃o,h₀.get? m=some o
 K:Frag
 KX:K.In h₀
 mg:Str->Option Value
 mb:Str->Option Value
 hg:h₀.Ns mainGlobals mg
 hb:h₀.Ns builtinsNs mb
 blt:∀x:Str,x≠"__name__" ->mb x=bootBuiltins x
 lim:h₀.NoLimit
 tabs:List Addr
 loose:Prop
abbrev Cx.M(C:Cx):Model:=model C.prog C.w
set_option genInjectivity true in
inductive O where
 | list (vs:List V)
 | sd (es:List (Str×V))
 | id (es:List (Int×V))
 | inst (cls dx:Addr)
 | tab (pos:Pos) (q:Str)
 | exc (cls:Addr)
 | ie (es:List (Int×V)) (ep:Nat)
abbrev Store:=Addr->Option O
noncomputable def Store.upd (σ:Store) (a:Addr) (o:O):Store:=fun b=>if b=a then some o else σ b
theorem Store.upd_self(σ:Store) (a:Addr) (o:O):σ.upd a o a=some o:=by simp[Store.upd]
theorem Store.upd_ne(σ:Store) {a b:Addr} (o:O) (h:b≠a):σ.upd a o b=σ b:=by simp[Store.upd,h]
inductive PR{K:Type} (h:Heap):List (K×Value)->List (K×V)->Prop
 | nil:PR h [] []
 | cons {k:K} {v:Value} {x:V} {r:List (K×Value)} {r':List (K×V)}:VR h v x->PR h r r'->PR h ((k,v)::r) ((k,x)::r')
theorem PR.mono{K:Type} {h h':Heap} (k:TupKeep h h') {a:List (K×Value)} {b:List (K×V)} (z:PR h a b):PR h' a b:=by
 induction z with
 | nil=>exact .nil
 | cons x _ ih=>exact .cons (x.mono k) ih
abbrev Z2q(C dx:Addr):Obj:={ cls:=.ref C,dict:=some dx }
noncomputable def Rep (C:Cx) (h:Heap) (a:Addr):O->Prop
 | .list vs=>∃items,h.PlainList a items∧VRs h items.toList vs
 | .sd es=>∃kvs,h.DictOf (strKind C.prog C.w) a kvs∧PR h kvs es
 | .id es=>∃kvs,h.DictOf (intKind C.prog C.w) a kvs∧PR h kvs es
 | .inst c dx=>h.get? a=some (Z2q c dx)
 | .tab pos q=>h.get? a=some { cls:=.none,data:=.fields #[] }∨∃c' o vs t,h.get? a=some { cls:=.none,data:=.fields #[rawInt pos.line,rawInt pos.col,.ref c'] }∧h.get? c'=some o∧o.cls=.type "code" ∧o.data=.fields vs∧vs[1]?=some (.str q t)
 | .exc c=>∃o vs,h.get? a=some o∧o.cls=.ref c∧o.data=.fields vs
 | .ie es ep=>∃kvs,h.DictAt (intKind C.prog C.w) a kvs ep∧PR h kvs es
theorem Rep.isSome{C:Cx} {h:Heap} {a:Addr} {o:O} (r:Rep C h a o):∃x,h.get? a=some x∧¬Imm x:=by
 cases o with
 | list vs=>obtain⟨items,⟨n,e⟩,_⟩:=r;exact⟨_,e,Imm.not (by simp) (by simp) (by simp)⟩
 | sd es=>
  obtain⟨kvs,d,_⟩:=r
  obtain⟨o,es,ep,ho,hx,_⟩:=d
  exact⟨o,ho,Imm.not (by rw[hx.1];decide) (by rw[hx.1];decide) (by rw[hx.1];decide)⟩
 | id es=>
  obtain⟨kvs,d,_⟩:=r
  obtain⟨o,es,ep,ho,hx,_⟩:=d
  exact⟨o,ho,Imm.not (by rw[hx.1];decide) (by rw[hx.1];decide) (by rw[hx.1];decide)⟩
 | inst c dx=>exact⟨_,r,Imm.not (fun z=>by cases z) (fun z=>by cases z) (fun z=>by cases z)⟩
 | tab pos q=>
  rcases r with e|⟨c',o,vs,t,e,_⟩
  ·exact⟨_,e,Imm.not (fun z=>by cases z) (fun z=>by cases z) (fun z=>by cases z)⟩
  ·exact⟨_,e,Imm.not (fun z=>by cases z) (fun z=>by cases z) (fun z=>by cases z)⟩
 | exc c=>
  obtain⟨o,vs,e,hc,_⟩:=r
  exact⟨o,e,Imm.not (fun z=>by rw[hc]at z;cases z) (fun z=>by rw[hc]at z;cases z) (fun z=>by rw[hc]at z;cases z)⟩
 | ie es ep=>
  obtain⟨kvs,d,_⟩:=r
  obtain⟨o,es,ho,hx,_⟩:=d
  exact⟨o,ho,Imm.not (by rw[hx.1];decide) (by rw[hx.1];decide) (by rw[hx.1];decide)⟩
theorem Rep.at{C:Cx} {h h':Heap} {a:Addr} {o:O} (r:Rep C h a o) (k:∀x,h.get? a=some x->h'.get? a=some x) (t:TupKeep h h'):Rep C h' a o:=by
 cases o with
 | list vs=>obtain⟨items,p,q⟩:=r;exact⟨items,p.at k,q.mono t⟩
 | sd es=>
  obtain⟨kvs,d,q⟩:=r
  obtain⟨o,es',ep,ho,rest⟩:=d
  exact⟨kvs,⟨o,es',ep,k _ ho,rest⟩,q.mono t⟩
 | id es=>
  obtain⟨kvs,d,q⟩:=r
  obtain⟨o,es',ep,ho,rest⟩:=d
  exact⟨kvs,⟨o,es',ep,k _ ho,rest⟩,q.mono t⟩
 | inst c dx=>exact k _ r
 | tab pos q=>
  rcases r with e|⟨c',o,vs,u,e,e2,h1,h2,h3⟩
  ·exact .inl (k _ e)
  ·exact .inr ⟨c',o,vs,u,k _ e,t _ _ (.inr (.inr ⟨h1,vs,h2⟩)) e2,h1,h2,h3⟩
 | exc c=>
  obtain⟨o,vs,e,r⟩:=r
  exact⟨o,vs,k _ e,r⟩
 | ie es ep=>
  obtain⟨kvs,d,q⟩:=r
  obtain⟨o,es',ho,rest⟩:=d
  exact⟨kvs,⟨o,es',k _ ho,rest⟩,q.mono t⟩
structure St(C:Cx) (σ:Store) (s:Shared):Prop where
 base:∀b o,C.h₀.get? b=some o->s.heap.get? b=some o
 rep:∀a o,σ a=some o->Rep C s.heap a o
 above:∀a o,σ a=some o->C.h₀.get? a=none∧(C.n₀≤a∨a∈C.tabs∨C.loose)
 gens:s.gens=C.gens
 os:s.os=C.os
theorem St.size{C:Cx} {σ:Store} {s:Shared} (S:St C σ s):C.n₀≤s.heap.objs.size:=by
 cases q:C.n₀ with
 | zero=>exact Nat.zero_le _
 | succ m=>
  obtain⟨o,e⟩:=C.top m q
  exact Heap.lt_size (S.base m o e)
noncomputable def Kept (h':Heap) (b:Addr) (o:Obj):Prop:=h'.get? b=some o∨((∃es n,o.data=.dict es n)∧∃sl,h'.get? b=some { o with slots:=sl })
theorem Kept.got{h':Heap} {b:Addr} {o:Obj} (x:Kept h' b o):∃o',h'.get? b=some o':=by
 rcases x with x|⟨_,_,x⟩<;>exact⟨_,x⟩
theorem Kept.trans{h1 h2:Heap} {b:Addr} {o:Obj} (x:Kept h1 b o) (k:∀o',h1.get? b=some o'->Kept h2 b o'):Kept h2 b o:=by
 rcases x with x|⟨⟨es,n,d⟩,sl,x⟩
 ·exact k _ x
 ·rcases k _ x with y|⟨_,sl',y⟩
  ·exact .inr ⟨⟨es,n,d⟩,sl,y⟩
  ·exact .inr ⟨⟨es,n,d⟩,sl',y⟩
theorem Kept.exact{h':Heap} {b:Addr} {o:Obj} (x:Kept h' b o) (hn:∀es n,o.data≠.dict es n):h'.get? b=some o:=by
 rcases x with x|⟨⟨es,n,d⟩,_⟩
 ·exact x
 ·exact absurd d (hn es n)
theorem Kept.same{h':Heap} {b:Addr} {o:Obj} (x:Kept h' b o):∃o',h'.get? b=some o'∧o'.data=o.data:=by
 rcases x with x|⟨_,_,x⟩
 ·exact⟨_,x,rfl⟩
 ·exact⟨_,x,rfl⟩
structure Evo(σ:Store) (h:Heap) (σ':Store) (h':Heap):Prop where
 keep:∀b o,h.get? b=some o->σ b=none->Kept h' b o
 dom:∀b o,σ' b=some o->(∃o',σ b=some o')∨h.get? b=none
 mono:∀b o,σ b=some o->∃o',σ' b=some o'
 tup:TupKeep h h'
theorem Evo.refl(σ:Store) (h:Heap):Evo σ h σ h:=⟨fun _ _ e _=>.inl e,fun _ _ e=>.inl ⟨_,e⟩,fun _ _ e=>⟨_,e⟩,.refl _⟩
theorem Evo.trans{σ1 σ2 σ3:Store} {h1 h2 h3:Heap} (x:Evo σ1 h1 σ2 h2) (y:Evo σ2 h2 σ3 h3):Evo σ1 h1 σ3 h3:=by
 refine⟨fun b o e n=>?_,fun b o e=>?_,fun b o e=>?_,x.tup.trans y.tup⟩
 ·refine(x.keep b o e n).trans fun o' e'=>y.keep b o' e' ?_
  cases q:σ2 b with
  | none=>rfl
  | some o2=>
   rcases x.dom b o2 q with⟨o',e'⟩|e'
   ·rw[n]at e';cases e'
   ·rw[e]at e';cases e'
 ·rcases y.dom b o e with⟨o',e'⟩|e'
  ·exact x.dom b o' e'
  ·cases q:h1.get? b with
   | none=>exact .inr rfl
   | some o1=>
    left
    cases q':σ1 b with
    | some o'=>exact⟨o',rfl⟩
    | none=>
     obtain⟨o',z⟩:=(x.keep b o1 q q').got
     rw[z]at e';cases e'
 ·obtain⟨o',e'⟩:=x.mono b o e
  exact y.mono b o' e'
abbrev XP:=Value->Shared->Prop
inductive EP(C:Cx) (σ:Store) (h:Heap) (Q:V->Store->Prop) (v:Value) (s':Shared):Prop
 | mk (x:V) (σ':Store) (q:Q x σ') (r:VR s'.heap v x) (S:St C σ' s') (e:Evo σ h σ' s'.heap):EP C σ h Q v s'
inductive TP(C:Cx) (σ:Store) (h:Heap) (Q:Bool->Store->Prop) (b:Bool) (s':Shared):Prop
 | mk (σ':Store) (q:Q b σ') (S:St C σ' s') (e:Evo σ h σ' s'.heap):TP C σ h Q b s'
theorem EP.mono{C:Cx} {σ:Store} {h:Heap} {Q Q':V->Store->Prop} {v:Value} {s':Shared} (x:EP C σ h Q v s') (k:∀x σ',Q x σ'->Q' x σ'):EP C σ h Q' v s':=
 let ⟨a,b,c,d,e,f⟩:=x;⟨a,b,k _ _ c,d,e,f⟩
theorem EP.after{C:Cx} {σ σ1:Store} {h h1:Heap} {Q:V->Store->Prop} {v:Value} {s':Shared} (x:EP C σ1 h1 Q v s') (k:Evo σ h σ1 h1):EP C σ h Q v s':=
 let ⟨a,b,c,d,e,f⟩:=x;⟨a,b,c,d,e,k.trans f⟩
abbrev Rho:=List (Str×V)
noncomputable def Rho.get:Rho->Str->Option V
 | [],_=>none
 | (y,v)::r,x=>if x=y then some v else Rho.get r x
noncomputable def Rho.put:Rho->Str->V->Rho
 | [],x,v=>[(x,v)]
 | (y,u)::r,x,v=>if x=y then(x,v)::r else(y,u)::Rho.put r x v
theorem Rho.get_hit{x:Str} {v:V} {r:Rho}:Rho.get ((x,v)::r) x=some v:=by simp[Rho.get]
theorem Rho.get_miss{x y:Str} {u:V} {v:Option V} {r:Rho} (h:x≠y) (k:Rho.get r x=v):Rho.get ((y,u)::r) x=v:=by simp[Rho.get,h,k]
theorem Rho.put_nil{x:Str} {v:V}:Rho.put [] x v=[(x,v)]:=rfl
theorem Rho.put_miss{x y:Str} {u v:V} {r r':Rho} (h:x≠y) (k:Rho.put r x v=r'):Rho.put ((y,u)::r) x v=(y,u)::r':=by simp[Rho.put,h,k]
theorem Rho.get_put(x:Str) (v:V):∀(r:Rho) (y:Str),Rho.get (Rho.put r x v) y=if y=x then some v else Rho.get r y
 | [],y=>by simp[Rho.put,Rho.get]
 | (z,u)::r,y=>by
  have ih:=Rho.get_put x v r y
  by_cases h:x=z
  ·subst h
   simp only[Rho.put,if_true,Rho.get]
   by_cases h2:y=x<;>simp[h2]
  ·simp only[Rho.put,h,if_false,Rho.get]
   by_cases h2:y=z
   ·subst h2;simp[Ne.symm h]
   ·simp[h2,ih]
structure Fm(C:Cx) (σ:Store) (h:Heap) (env:Env) (ρ:Rho):Prop where
 fn:env.scope.kind=.function
 loc:∃m,h.Ns env.locals m∧∀x v,env.kindOf x=some .local->ρ.get x=some v->∃u,m x=some u∧VR h u v
 locs:σ env.locals=none
 abv:C.n₀≤env.locals
 cell:∀x c,env.cells.lookup x=some c->∃ov,h.IsCell c ov∧(∀v,ρ.get x=some v->∃u,ov=some u∧VR h u v)
 ncell:∀x c,env.cells.lookup x=some c->σ c=none∧c≠env.locals∧C.n₀≤c
 apart:∀x y c,env.cells.lookup x=some c->env.cells.lookup y=some c->x=y
theorem Z3V{h h':Heap} {c:Addr} {v:Option Value} (x:h.IsCell c v) (k:∀o,h.get? c=some o->h'.get? c=some o):h'.IsCell c v:=by
 unfold Heap.IsCell at *
 obtain⟨o,e,r⟩:=x
 exact⟨o,k _ e,r⟩
theorem Z2Y{h h':Heap} {c:Addr} {v:Option Value} (x:h.IsCell c v) (k:∀o,h.get? c=some o->Kept h' c o):h'.IsCell c v:=by
 unfold Heap.IsCell at *
 obtain⟨o,e,r⟩:=x
 obtain⟨o',e',d⟩:=(k _ e).same
 exact⟨o',e',d.trans r⟩
theorem Z5m{h h':Heap} {L:Addr} {m:Str->Option Value} (x:h.Ns L m) (k:∀o,h.get? L=some o->Kept h' L o):h'.Ns L m:=by
 obtain⟨o,es,ep,ho,hd,rest⟩:=x
 obtain⟨o',e',d⟩:=(k _ ho).same
 exact⟨o',es,ep,e',d.trans hd,rest⟩
theorem Fm.evo{C:Cx} {σ σ':Store} {h h':Heap} {env:Env} {ρ:Rho} (F:Fm C σ h env ρ) (k:Evo σ h σ' h'):Fm C σ' h' env ρ:=by
 obtain⟨f1,⟨m,hm,f2⟩,f3,f5,f6,f7,f8⟩:=F
 have hm':=Z5m hm fun o e=>k.keep _ _ e f3
 obtain⟨o,es,ep,ho,rest⟩:=hm
 have nd:∀b o,h.get? b=some o->σ b=none->σ' b=none:=fun b o e n=>by
  cases q:σ' b with
  | none=>rfl
  | some o2=>
   rcases k.dom b o2 q with⟨o',e'⟩|e'
   ·rw[n]at e';cases e'
   ·rw[e]at e';cases e'
 refine⟨f1,⟨m,hm',fun x v hx hv=>?_⟩,nd _ _ ho f3,f5,fun x c hc=>?_,fun x c hc=>?_,f8⟩
 ·obtain⟨u,a,b⟩:=f2 x v hx hv
  exact⟨u,a,b.mono k.tup⟩
 ·obtain⟨ov,a,b⟩:=f6 x c hc
  obtain⟨n1,_,_⟩:=f7 x c hc
  refine⟨ov,Z2Y a fun o e=>k.keep _ _ e n1,fun v hv=>?_⟩
  obtain⟨u,p,q⟩:=b v hv
  exact⟨u,p,q.mono k.tup⟩
 ·obtain⟨n1,n2,n3⟩:=f7 x c hc
  obtain⟨ov,a,b⟩:=f6 x c hc
  have a':=a
  unfold Heap.IsCell at a'
  obtain⟨o,e,_⟩:=a'
  exact⟨nd _ _ e n1,n2,n3⟩
noncomputable def Ev (C:Cx) (A:Around) (env:Env) (e:Expr) (ρ:Rho) (σ:Store) (Q:V->Store->Prop) (X:XP):Prop:=
 ∀s,St C σ s->Fm C σ s.heap env ρ->wpAny C.M A (eval e env) (EP C σ s.heap Q) X s
noncomputable def Tst (C:Cx) (A:Around) (env:Env) (e:Expr) (ρ:Rho) (σ:Store) (Q:Bool->Store->Prop) (X:XP):Prop:=
 ∀s,St C σ s->Fm C σ s.heap env ρ->wpAny C.M A (isTrue e env (eval e env)) (TP C σ s.heap Q) X s
noncomputable def BinWP (C:Cx) (A:Around) (op:Operator) (x y:V) (σ:Store) (Q:V->Store->Prop) (X:XP):Prop:=
 ∀s a b,St C σ s->VR s.heap a x->VR s.heap b y->wpAny C.M A (binaryOp op a b) (EP C σ s.heap Q) X s
noncomputable def CmpWP (C:Cx) (A:Around) (op:CmpOp) (x y:V) (σ:Store) (Q:V->Store->Prop) (X:XP):Prop:=
 ∀s a b,St C σ s->VR s.heap a x->VR s.heap b y->wpAny C.M A (compareOp op a b) (EP C σ s.heap Q) X s
noncomputable def UnWP (C:Cx) (A:Around) (op:UnaryOp) (x:V) (σ:Store) (Q:V->Store->Prop) (X:XP):Prop:=
 ∀s a,St C σ s->VR s.heap a x->wpAny C.M A (unaryOp op a) (EP C σ s.heap Q) X s
noncomputable def TruWP (C:Cx) (A:Around) (x:V) (σ:Store) (Q:Bool->Store->Prop) (X:XP):Prop:=
 ∀s a,St C σ s->VR s.heap a x->wpAny C.M A (truthy a) (TP C σ s.heap Q) X s
section
variable {C:Cx} {A:Around} {env:Env} {ρ:Rho} {σ:Store} {X:XP}
theorem Ev.bin{l r:Expr} {op:Operator} {pos:Pos} {Q:V->Store->Prop}
  (h:Ev C A env l ρ σ (fun x σ1=>Ev C A env r ρ σ1 (fun y σ2=>BinWP C A op x y σ2 Q X) X) X):Ev C A env (.BinOp l op r pos) ρ σ Q X:=by
 intro s S F
 refine wpAny_BinOp (wpAny_mono (h s S F) ?_ fun _ _ z=>z)
 rintro a s1 ⟨x,σ1,h1,r1,S1,e1⟩
 refine wpAny_mono (h1 s1 S1 (F.evo e1)) ?_ fun _ _ z=>z
 rintro b s2 ⟨y,σ2,h2,r2,S2,e2⟩
 exact wpAny_mono (h2 s2 a b S2 (r1.mono e2.tup) r2) (fun _ _ z=>(z.after e2).after e1) fun _ _ z=>z
end
open PySem.SeqAt PyProof.Rows
noncomputable def Z1m (p:Str×Value):DictEntry:=⟨0,.str p.1 default,p.2⟩
theorem Z6r(l:List (Str×Value)) (x:Str):nsFind (l.map Z1m).toArray x=l.lookup x:=by
 unfold nsFind findBy
 rw[List.find?_toArray]
 induction l with
 | nil=>rfl
 | cons p l ih=>
  rw[List.map_cons,List.find?_cons,List.lookup_cons]
  by_cases h:x=p.1
  ·subst h;simp[Z1m,Value.isStr]
  ·have e1:(Z1m p).key.isStr x=false:=by simp[Z1m,Value.isStr];exact fun z=>h z.symm
   have e2:(x==p.1)=false:=by simpa using h
   show Option.map _ (match (Z1m p).key.isStr x with|true=>_|false=>_)=_
   rw[e1,e2];exact ih
theorem cx_ne:Nonempty Cx:=by
 let l:=(Manifest.builtinsNames.map fun y=>(Str.ofString y.1,bootValue y.2 y.1)).reverse
 let o:Obj:={ cls:=.none,data:=.dict (l.map Z1m).toArray 0 }
 let h:Heap:={ objs:=#[o,o,o,o] }
 have g:∀a,a<4->h.get? a=some o:=fun a ha=>by
  match a,ha with
  | 0,_=>rfl
  | 1,_=>rfl
  | 2,_=>rfl
  | 3,_=>rfl
 have N:∀a,a<4->h.Ns a bootBuiltins:=fun a ha=>⟨o,_,_,g a ha,rfl,fun e he=>by
  obtain⟨p,_,rfl⟩:=List.mem_map.mp (List.mem_toArray.mp he)
  exact⟨_,_,rfl⟩,fun x=>Z6r l x⟩
 exact⟨⟨default,⟨fun _ _=>0,{ strHash:=fun _=>0,shareClass:=fun _=>0,mergeTok:=id,idOf:=fun _=>0,idOfShared:=fun _ _=>0,followText:=fun _=>false,idOfImm:=fun _=>0 }⟩,h,#[],default,4,fun b o' e=>Heap.lt_size e,(fun m e=>by cases e;exact⟨o,g 3 (by decide)⟩),[],(fun a o' e=>by cases e),bootBuiltins,bootBuiltins,N mainGlobals (by decide),N builtinsNs (by decide),fun _ _=>rfl,⟨_,N cStatics (by decide),by decide +kernel⟩,[],True⟩⟩
theorem Z6s:Nonempty Around:=⟨callerA⟩
theorem Z6t:Nonempty Shared:=⟨{}⟩
theorem o_ne:Nonempty O:=⟨.list []⟩
theorem w_ne:Nonempty World:=cx_ne.elim fun C=>⟨C.w⟩
theorem Z6u:Nonempty Model:=cx_ne.elim fun C=>⟨C.M⟩
theorem Z6v:Nonempty PyData:=⟨.none⟩
theorem kd_ne:Nonempty SortKind:=by constructor;constructor
theorem Z6w:Nonempty SortSt:=kd_ne.elim fun k=>⟨SortSt.mk' k #[] #[] 0 none⟩
theorem St.toks{C:Cx} {σ:Store} {s:Shared} (x:St C σ s) (t:Nat):St C σ { s with toks:=t }:=⟨x.base,x.rep,x.above,x.gens,x.os⟩
section
variable {C:Cx} {A:Around} {env:Env} {ρ:Rho} {σ:Store} {X:XP}
theorem EP.pure{s:Shared} {Q:V->Store->Prop} {v:Value} {x:V} (S:St C σ s) (q:Q x σ) (r:VR s.heap v x):EP C σ s.heap Q v s:=
 ⟨x,σ,q,r,S,.refl ..⟩
theorem EP.pureT{s:Shared} {Q:V->Store->Prop} {v:Value} {x:V} {t:Nat} (S:St C σ s) (q:Q x σ) (r:VR s.heap v x):EP C σ s.heap Q v { s with toks:=t }:=
 ⟨x,σ,q,r,S.toks t,.refl ..⟩
theorem Ev.mono{e:Expr} {Q Q':V->Store->Prop} (h:Ev C A env e ρ σ Q X) (k:∀x σ',Q x σ'->Q' x σ'):Ev C A env e ρ σ Q' X:=
 fun s S F=>wpAny_mono (h s S F) (fun _ _ z=>z.mono k) fun _ _ z=>z
theorem Ev.cint{i:Int} {k:Nat} {pos:Pos} {Q:V->Store->Prop} (h:Q (.int i) σ):Ev C A env (.Constant (.int i) k pos) ρ σ Q X:=
 fun _ S _=>wpAny_Constant_int (EP.pureT S h (.int _ _))
theorem Ev.cstr{i:Str} {k:Nat} {pos:Pos} {Q:V->Store->Prop} (h:Q (.str i) σ):Ev C A env (.Constant (.str i) k pos) ρ σ Q X:=
 fun _ S _=>wpAny_Constant_str (EP.pureT S h (.str _ _))
theorem Ev.cbool{i:Bool} {k:Nat} {pos:Pos} {Q:V->Store->Prop} (h:Q (.bool i) σ):Ev C A env (.Constant (.bool i) k pos) ρ σ Q X:=
 fun _ S _=>wpAny_Constant_bool (EP.pure S h (.bool _))
theorem Ev.cnone{k:Nat} {pos:Pos} {Q:V->Store->Prop} (h:Q .none σ):Ev C A env (.Constant .none k pos) ρ σ Q X:=
 fun _ S _=>wpAny_Constant_none (EP.pure S h .none)
theorem Ev.loc{x:Str} {pos:Pos} {v:V} {Q:V->Store->Prop} (hk:env.kindOf x=some .local) (hv:ρ.get x=some v) (h:Q v σ)
  (hd:(x==("__debug__":Str))=false):Ev C A env (.Name x pos) ρ σ Q X:=by
 intro s S F
 obtain⟨m,hm,f⟩:=F.loc
 obtain⟨u,hu,r⟩:=f x v hk hv
 exact wpAny_Name (wpAny_loadName_local F.fn hk hm hu (EP.pure S h r)) hd
theorem Ev.cel{x:Str} {pos:Pos} {v:V} {c:Addr} {Q:V->Store->Prop} (hk:env.kindOf x=some .cell) (hc:env.cells.lookup x=some c) (hv:ρ.get x=some v) (h:Q v σ)
  (hd:(x==("__debug__":Str))=false):Ev C A env (.Name x pos) ρ σ Q X:=by
 intro s S F
 obtain⟨ov,a,b⟩:=F.cell x c hc
 obtain⟨u,rfl,r⟩:=b v hv
 exact wpAny_Name (wpAny_loadName_cell F.fn hk hc a (EP.pure S h r)) hd
theorem Ev.free{x:Str} {pos:Pos} {v:V} {c:Addr} {Q:V->Store->Prop} (hk:env.kindOf x=some .free) (hc:env.cells.lookup x=some c) (hv:ρ.get x=some v) (h:Q v σ)
  (hd:(x==("__debug__":Str))=false) (hn:(x==("__classdict__":Str))=false):Ev C A env (.Name x pos) ρ σ Q X:=by
 intro s S F
 obtain⟨ov,a,b⟩:=F.cell x c hc
 obtain⟨u,rfl,r⟩:=b v hv
 exact wpAny_Name (wpAny_loadName_free F.fn hk hc a (EP.pure S h r) hn) hd
theorem Ev.cmp{l r:Expr} {op:CmpOp} {pos:Pos} {Q:V->Store->Prop}
  (h:Ev C A env l ρ σ (fun x σ1=>Ev C A env r ρ σ1 (fun y σ2=>CmpWP C A op x y σ2 Q X) X) X) (hm:behindInMarks op r=false:=by kernel_rfl):Ev C A env (.Compare l [op] [r] pos) ρ σ Q X:=by
 intro s S F
 refine wpAny_Compare1 (wpAny_mono (h s S F) ?_ fun _ _ z=>z) hm
 rintro a s1 ⟨x,σ1,h1,r1,S1,e1⟩
 refine wpAny_mono (h1 s1 S1 (F.evo e1)) ?_ fun _ _ z=>z
 rintro b s2 ⟨y,σ2,h2,r2,S2,e2⟩
 exact wpAny_mono (h2 s2 a b S2 (r1.mono e2.tup) r2) (fun _ _ z=>(z.after e2).after e1) fun _ _ z=>z
theorem Ev.un{e:Expr} {op:UnaryOp} {pos:Pos} {Q:V->Store->Prop} (h:Ev C A env e ρ σ (fun x σ1=>UnWP C A op x σ1 Q X) X):Ev C A env (.UnaryOp op e pos) ρ σ Q X:=by
 intro s S F
 refine wpAny_UnaryOp (wpAny_mono (h s S F) ?_ fun _ _ z=>z)
 rintro a s1 ⟨x,σ1,h1,r1,S1,e1⟩
 exact wpAny_mono (h1 s1 a S1 r1) (fun _ _ z=>z.after e1) fun _ _ z=>z
theorem TP.after{σ1:Store} {h h1:Heap} {Q:Bool->Store->Prop} {v:Bool} {s':Shared} (x:TP C σ1 h1 Q v s') (k:Evo σ h σ1 h1):TP C σ h Q v s':=
 let ⟨a,b,c,d⟩:=x;⟨a,b,c,k.trans d⟩
theorem TP.pure{s:Shared} {Q:Bool->Store->Prop} {v:Bool} (S:St C σ s) (q:Q v σ):TP C σ s.heap Q v s:=⟨σ,q,S,.refl ..⟩
theorem Tst.mono{e:Expr} {Q Q':Bool->Store->Prop} (h:Tst C A env e ρ σ Q X) (k:∀x σ',Q x σ'->Q' x σ'):Tst C A env e ρ σ Q' X:=
 fun s S F=>wpAny_mono (h s S F) (fun _ _ ⟨a,b,c,d⟩=>⟨a,k _ _ b,c,d⟩) fun _ _ z=>z
theorem Tst.cmp{l r:Expr} {op:CmpOp} {pos:Pos} {Q:Bool->Store->Prop}
  (h:Ev C A env l ρ σ (fun x σ1=>Ev C A env r ρ σ1 (fun y σ2=>CmpWP C A op x y σ2 (fun c σ3=>TruWP C A c σ3 Q X) X) X) X) (hm:behindInMarks op r=false:=by kernel_rfl) :
  Tst C A env (.Compare l [op] [r] pos) ρ σ Q X:=by
 intro s S F
 refine wpAny_isTrue_Compare1 (wpAny_mono (h s S F) ?_ fun _ _ z=>z) hm
 rintro a s1 ⟨x,σ1,h1,r1,S1,e1⟩
 refine wpAny_mono (h1 s1 S1 (F.evo e1)) ?_ fun _ _ z=>z
 rintro b s2 ⟨y,σ2,h2,r2,S2,e2⟩
 refine wpAny_mono (h2 s2 a b S2 (r1.mono e2.tup) r2) ?_ fun _ _ z=>z
 rintro c s3 ⟨z,σ3,h3,r3,S3,e3⟩
 exact wpAny_mono (h3 s3 c S3 r3) (fun _ _ z=>TP.after z ((e1.trans e2).trans e3)) fun _ _ z=>z
theorem Tst.not{e:Expr} {pos:Pos} {Q:Bool->Store->Prop} (h:Tst C A env e ρ σ (fun b σ'=>Q (!b) σ') X):Tst C A env (.UnaryOp .Not e pos) ρ σ Q X:=
 fun s S F=>wpAny_isTrue_Not (wpAny_mono (h s S F) (fun _ _ ⟨a,b,c,d⟩=>⟨a,b,c,d⟩) fun _ _ z=>z)
theorem Tst.val{e:Expr} {Q:Bool->Store->Prop} (h:Ev C A env e ρ σ (fun x σ1=>TruWP C A x σ1 Q X) X)
  (he:isTrue e env (eval e env)=(do let v ←eval e env;standAt e.pos;holding [v] (truthy v)):=by kernel_rfl):Tst C A env e ρ σ Q X:=by
 intro s S F
 refine wpAny_isTrue_value (wpAny_mono (h s S F) ?_ fun _ _ z=>z) he
 rintro c s3 ⟨z,σ3,h3,r3,S3,e3⟩
 exact wpAny_mono (h3 s3 c S3 r3) (fun _ _ z=>TP.after z e3) fun _ _ z=>z
noncomputable def AllT (C:Cx) (A:Around) (env:Env) (op:BoolOp) (es:List Expr) (ρ:Rho) (σ:Store) (Q:Bool->Store->Prop) (X:XP):Prop:=
 ∀s,St C σ s->Fm C σ s.heap env ρ->wpAny C.M A (allTrue op es env) (TP C σ s.heap Q) X s
theorem Tst.boolop{op:BoolOp} {es:List Expr} {pos:Pos} {Q:Bool->Store->Prop} (h:AllT C A env op es ρ σ Q X):Tst C A env (.BoolOp op es pos) ρ σ Q X:=
 fun s S F=>wpAny_isTrue_BoolOp (h s S F)
theorem AllT.and_nil{Q:Bool->Store->Prop} (h:Q true σ):AllT C A env .And [] ρ σ Q X:=fun s S _=>wpAny_allTrue_And_nil (TP.pure S h)
theorem AllT.or_nil{Q:Bool->Store->Prop} (h:Q false σ):AllT C A env .Or [] ρ σ Q X:=fun s S _=>wpAny_allTrue_Or_nil (TP.pure S h)
theorem AllT.and_cons{e:Expr} {es:List Expr} {Q:Bool->Store->Prop} (h:Tst C A env e ρ σ (fun b σ1=>if b then AllT C A env .And es ρ σ1 Q X else Q false σ1) X):AllT C A env .And (e::es) ρ σ Q X:=by
 intro s S F
 refine wpAny_allTrue_And_cons (wpAny_mono (h s S F) ?_ fun _ _ z=>z)
 rintro b s1 ⟨σ1,h1,S1,e1⟩
 cases b with
 | true=>exact wpAny_mono (h1 s1 S1 (F.evo e1)) (fun _ _ z=>TP.after z e1) fun _ _ z=>z
 | false=>exact⟨σ1,h1,S1,e1⟩
theorem AllT.or_cons{e:Expr} {es:List Expr} {Q:Bool->Store->Prop} (h:Tst C A env e ρ σ (fun b σ1=>if b then Q true σ1 else AllT C A env .Or es ρ σ1 Q X) X):AllT C A env .Or (e::es) ρ σ Q X:=by
 intro s S F
 refine wpAny_allTrue_Or_cons (wpAny_mono (h s S F) ?_ fun _ _ z=>z)
 rintro b s1 ⟨σ1,h1,S1,e1⟩
 cases b with
 | false=>exact wpAny_mono (h1 s1 S1 (F.evo e1)) (fun _ _ z=>TP.after z e1) fun _ _ z=>z
 | true=>exact⟨σ1,h1,S1,e1⟩
noncomputable def BoolE (C:Cx) (A:Around) (env:Env) (pos:Pos) (op:BoolOp) (es:List Expr) (ρ:Rho) (σ:Store) (Q:V->Store->Prop) (X:XP):Prop:=
 ∀s,St C σ s->Fm C σ s.heap env ρ->wpAny C.M A (boolOp pos op (evalEach es env)) (EP C σ s.heap Q) X s
theorem Ev.boolop{op:BoolOp} {es:List Expr} {pos:Pos} {Q:V->Store->Prop} (h:BoolE C A env pos op es ρ σ Q X):Ev C A env (.BoolOp op es pos) ρ σ Q X:=
 fun s S F=>h s S F
theorem BoolE.one{op:BoolOp} {e:Expr} {pos:Pos} {Q:V->Store->Prop} (h:Ev C A env e ρ σ Q X):BoolE C A env pos op [e] ρ σ Q X:=
 fun s S F=>h s S F
theorem BoolE.and{e e':Expr} {es:List Expr} {pos:Pos} {Q:V->Store->Prop} (h:Ev C A env e ρ σ (fun x σ1=>TruWP C A x σ1 (fun b σ2=>if b then BoolE C A env pos .And (e'::es) ρ σ2 Q X else Q x σ2) X) X):BoolE C A env pos .And (e::e'::es) ρ σ Q X:=by
 revert C A env ρ σ X e e' es pos Q;k_extra "e11";intro C A env ρ σ X e e' es pos Q h
 intro s S F
 show wpAny C.M A (do
  let v ←eval e env
  standAt pos
  let t ←holding [v] (truthy v)
  match BoolOp.And,t with
  | .And,false|.Or,true=>pure v
  | _,_=>boolOp pos .And (evalEach (e'::es) env)) _ _ s
 refine wpAny_bind (wpAny_mono (h s S F) ?_ fun _ _ z=>z)
 rintro v s1 ⟨x,σ1,h1,r1,S1,e1⟩
 refine wpAny_bind (wpAny_standAt (wpAny_bind (wpAny_holding (wpAny_mono (h1 s1 v S1 r1) ?_ fun _ _ z=>z))))
 rintro t s2 ⟨σ2,h2,S2,e2⟩
 cases t with
 | true=>exact wpAny_mono (h2 s2 S2 ((F.evo e1).evo e2)) (fun _ _ z=>(z.after e2).after e1) fun _ _ z=>z
 | false=>exact wpAny_pure ⟨x,σ2,h2,r1.mono e2.tup,S2,e1.trans e2⟩
theorem BoolE.or{e e':Expr} {es:List Expr} {pos:Pos} {Q:V->Store->Prop}
  (h:Ev C A env e ρ σ (fun x σ1=>TruWP C A x σ1 (fun b σ2=>if b then Q x σ2 else BoolE C A env pos .Or (e'::es) ρ σ2 Q X) X) X):BoolE C A env pos .Or (e::e'::es) ρ σ Q X:=by
 intro s S F
 show wpAny C.M A (do
  let v ←eval e env
  standAt pos
  let t ←holding [v] (truthy v)
  match BoolOp.Or,t with
  | .And,false|.Or,true=>pure v
  | _,_=>boolOp pos .Or (evalEach (e'::es) env)) _ _ s
 refine wpAny_bind (wpAny_mono (h s S F) ?_ fun _ _ z=>z)
 rintro v s1 ⟨x,σ1,h1,r1,S1,e1⟩
 refine wpAny_bind (wpAny_standAt (wpAny_bind (wpAny_holding (wpAny_mono (h1 s1 v S1 r1) ?_ fun _ _ z=>z))))
 rintro t s2 ⟨σ2,h2,S2,e2⟩
 cases t with
 | false=>exact wpAny_mono (h2 s2 S2 ((F.evo e1).evo e2)) (fun _ _ z=>(z.after e2).after e1) fun _ _ z=>z
 | true=>exact wpAny_pure ⟨x,σ2,h2,r1.mono e2.tup,S2,e1.trans e2⟩
theorem Ev.chain{l r1 r2:Expr} {op1 op2:CmpOp} {pos:Pos} {Q:V->Store->Prop} (h:Ev C A env l ρ σ (fun x σ1=>Ev C A env r1 ρ σ1 (fun y σ2=>CmpWP C A op1 x y σ2 (fun c σ3=>TruWP C A c σ3 (fun b σ4=>
   if b then Ev C A env r2 ρ σ4 (fun z σ5=>CmpWP C A op2 y z σ5 Q X) X else Q c σ4) X) X) X) X) (hm:lastMarks [op1,op2] [r1,r2]=false:=by kernel_rfl):Ev C A env (.Compare l [op1,op2] [r1,r2] pos) ρ σ Q X:=by
 revert C A env ρ σ X l r1 r2 op1 op2 pos Q;k_extra "e13";intro C A env ρ σ X l r1 r2 op1 op2 pos Q h hm
 intro s S F
 refine PyProof.Rows.Compare_chain (wpAny_mono (h s S F) ?_ fun _ _ z=>z) hm
 rintro a s1 ⟨x,σ1,h1,v1,S1,e1⟩
 refine PyProof.Rows.chain_link (wpAny_mono (h1 s1 S1 (F.evo e1)) ?_ fun _ _ z=>z)
 rintro b s2 ⟨y,σ2,h2,v2,S2,e2⟩
 refine wpAny_mono (h2 s2 a b S2 (v1.mono e2.tup) v2) ?_ fun _ _ z=>z
 rintro c s3 ⟨z,σ3,h3,v3,S3,e3⟩
 refine wpAny_mono (h3 s3 c S3 v3) ?_ fun _ _ z=>z
 rintro t s4 ⟨σ4,h4,S4,e4⟩
 have e14:=((e1.trans e2).trans e3).trans e4
 cases t with
 | false=>exact⟨z,σ4,h4,v3.mono e4.tup,S4,e14⟩
 | true=>
  refine PyProof.Rows.chain_last (wpAny_mono (h4 s4 S4 (F.evo e14)) ?_ fun _ _ z=>z)
  rintro d s5 ⟨z',σ5,h5,v5,S5,e5⟩
  exact wpAny_mono (h5 s5 b d S5 (((v2.mono e3.tup).mono e4.tup).mono e5.tup) v5) (fun _ _ z=>z.after (e14.trans e5)) fun _ _ z=>z
theorem Tst.chain{l r1 r2:Expr} {op1 op2:CmpOp} {pos:Pos} {Q:Bool->Store->Prop} (h:Ev C A env l ρ σ (fun x σ1=>Ev C A env r1 ρ σ1 (fun y σ2=>CmpWP C A op1 x y σ2 (fun c σ3=>TruWP C A c σ3 (fun b σ4=>
   if b then Ev C A env r2 ρ σ4 (fun z σ5=>CmpWP C A op2 y z σ5 (fun c σ6=>TruWP C A c σ6 Q X) X) X else Q false σ4) X) X) X) X) (hm:lastMarks [op1,op2] [r1,r2]=false:=by kernel_rfl):Tst C A env (.Compare l [op1,op2] [r1,r2] pos) ρ σ Q X:=by
 revert C A env ρ σ X l r1 r2 op1 op2 pos Q;k_extra "e13";intro C A env ρ σ X l r1 r2 op1 op2 pos Q h hm
 intro s S F
 refine PyProof.Rows.isTrue_chain (wpAny_mono (h s S F) ?_ fun _ _ z=>z) hm
 rintro a s1 ⟨x,σ1,h1,v1,S1,e1⟩
 refine PyProof.Rows.test_link (wpAny_mono (h1 s1 S1 (F.evo e1)) ?_ fun _ _ z=>z)
 rintro b s2 ⟨y,σ2,h2,v2,S2,e2⟩
 refine wpAny_mono (h2 s2 a b S2 (v1.mono e2.tup) v2) ?_ fun _ _ z=>z
 rintro c s3 ⟨z,σ3,h3,v3,S3,e3⟩
 refine wpAny_mono (h3 s3 c S3 v3) ?_ fun _ _ z=>z
 rintro t s4 ⟨σ4,h4,S4,e4⟩
 have e14:=((e1.trans e2).trans e3).trans e4
 cases t with
 | false=>exact⟨σ4,h4,S4,e14⟩
 | true=>
  refine PyProof.Rows.test_last (wpAny_mono (h4 s4 S4 (F.evo e14)) ?_ fun _ _ z=>z)
  rintro d s5 ⟨z',σ5,h5,v5,S5,e5⟩
  refine wpAny_mono (h5 s5 b d S5 (((v2.mono e3.tup).mono e4.tup).mono e5.tup) v5) ?_ fun _ _ z=>z
  rintro f s6 ⟨z'',σ6,h6,v6,S6,e6⟩
  exact wpAny_mono (h6 s6 f S6 v6) (fun _ _ z=>TP.after z ((e14.trans e5).trans e6)) fun _ _ z=>z
theorem BinWP.add_int{a b:Int} {Q:V->Store->Prop} (h:Q (.int (a+b)) σ):BinWP C A .Add (.int a) (.int b) σ Q X:=by
 intro s a b S ra rb
 obtain⟨_,rfl⟩:=ra.intI
 obtain⟨_,rfl⟩:=rb.intI
 exact PySem.P.add_int (EP.pureT S h (.int _ _))
theorem BinWP.sub_int{a b:Int} {Q:V->Store->Prop} (h:Q (.int (a-b)) σ):BinWP C A .Sub (.int a) (.int b) σ Q X:=by
 intro s a b S ra rb
 obtain⟨_,rfl⟩:=ra.intI
 obtain⟨_,rfl⟩:=rb.intI
 exact PySem.P.sub_int (EP.pureT S h (.int _ _))
theorem BinWP.mul_int{a b:Int} {Q:V->Store->Prop} (h:Q (.int (a*b)) σ) (hm:IntMulOk a b):BinWP C A .Mult (.int a) (.int b) σ Q X:=by
 intro s a b S ra rb
 obtain⟨_,rfl⟩:=ra.intI
 obtain⟨_,rfl⟩:=rb.intI
 exact PySem.P.mul_int (EP.pureT S h (.int _ _)) hm
theorem BinWP.fdiv_int{a b:Int} {Q:V->Store->Prop} (hb:b≠0) (hs:b.natAbs<1073741824) (h:Q (.int (a.fdiv b)) σ):BinWP C A .FloorDiv (.int a) (.int b) σ Q X:=by
 intro s a b S ra rb
 obtain⟨_,rfl⟩:=ra.intI
 obtain⟨_,rfl⟩:=rb.intI
 exact PyProof.Rows.floordiv_int hb (EP.pureT S h (.int _ _)) (.inl (PyProof.noPylong_small hs))
theorem BinWP.fmod_int{a b:Int} {Q:V->Store->Prop} (hb:b≠0) (h:Q (.int (a.fmod b)) σ):BinWP C A .Mod (.int a) (.int b) σ Q X:=by
 intro s a b S ra rb
 obtain⟨_,rfl⟩:=ra.intI
 obtain⟨_,rfl⟩:=rb.intI
 exact PyProof.Rows.mod_int' hb (EP.pureT S h (.int _ _))
theorem UnWP.neg_int{a:Int} {Q:V->Store->Prop} (h:Q (.int (-a)) σ):UnWP C A .USub (.int a) σ Q X:=by
 intro s a S r
 obtain⟨_,rfl⟩:=r.intI
 exact PySem.P.neg_int (EP.pureT S h (.int _ _))
theorem CmpWP.lt_int{a b:Int} {Q:V->Store->Prop} (h:Q (.bool (decide (a<b))) σ):CmpWP C A .Lt (.int a) (.int b) σ Q X:=by
 intro s a b S ra rb
 obtain⟨_,rfl⟩:=ra.intI
 obtain⟨_,rfl⟩:=rb.intI
 exact PySem.P.lt_int (EP.pure S h (.bool _))
theorem CmpWP.le_int{a b:Int} {Q:V->Store->Prop} (h:Q (.bool (decide (a≤b))) σ):CmpWP C A .LtE (.int a) (.int b) σ Q X:=by
 intro s a b S ra rb
 obtain⟨_,rfl⟩:=ra.intI
 obtain⟨_,rfl⟩:=rb.intI
 exact PySem.P.le_int (EP.pure S h (.bool _))
theorem CmpWP.gt_int{a b:Int} {Q:V->Store->Prop} (h:Q (.bool (decide (b<a))) σ):CmpWP C A .Gt (.int a) (.int b) σ Q X:=by
 intro s a b S ra rb
 obtain⟨_,rfl⟩:=ra.intI
 obtain⟨_,rfl⟩:=rb.intI
 exact PySem.P.gt_int (EP.pure S h (.bool _))
theorem CmpWP.ge_int{a b:Int} {Q:V->Store->Prop} (h:Q (.bool (decide (b≤a))) σ):CmpWP C A .GtE (.int a) (.int b) σ Q X:=by
 intro s a b S ra rb
 obtain⟨_,rfl⟩:=ra.intI
 obtain⟨_,rfl⟩:=rb.intI
 exact PySem.P.ge_int (EP.pure S h (.bool _))
theorem CmpWP.eq_int{a b:Int} {Q:V->Store->Prop} (h:Q (.bool (a==b)) σ):CmpWP C A .Eq (.int a) (.int b) σ Q X:=by
 intro s a b S ra rb
 obtain⟨_,rfl⟩:=ra.intI
 obtain⟨_,rfl⟩:=rb.intI
 exact PySem.P.eq_int (EP.pure S h (.bool _))
theorem CmpWP.ne_int{a b:Int} {Q:V->Store->Prop} (h:Q (.bool (a != b)) σ):CmpWP C A .NotEq (.int a) (.int b) σ Q X:=by
 intro s a b S ra rb
 obtain⟨_,rfl⟩:=ra.intI
 obtain⟨_,rfl⟩:=rb.intI
 exact PySem.P.ne_int (EP.pure S h (.bool _))
theorem BinWP.add_str{a b:Str} {Q:V->Store->Prop} (h:Q (.str (a++b)) σ) (hs:a.length+b.length≤sizeLine):BinWP C A .Add (.str a) (.str b) σ Q X:=by
 intro s a b S ra rb
 obtain⟨_,rfl⟩:=ra.strI
 obtain⟨_,rfl⟩:=rb.strI
 exact PyProof.Rows.add_str (fun _ _=>EP.pureT S h (.str _ _)) hs
theorem CmpWP.eq_str{a b:Str} {Q:V->Store->Prop} (h:Q (.bool (a==b)) σ):CmpWP C A .Eq (.str a) (.str b) σ Q X:=by
 intro s a b S ra rb
 obtain⟨_,rfl⟩:=ra.strI
 obtain⟨_,rfl⟩:=rb.strI
 exact PyProof.Rows.eq_str (EP.pure S h (.bool _))
theorem CmpWP.ne_str{a b:Str} {Q:V->Store->Prop} (h:Q (.bool (a != b)) σ):CmpWP C A .NotEq (.str a) (.str b) σ Q X:=by
 intro s a b S ra rb
 obtain⟨_,rfl⟩:=ra.strI
 obtain⟨_,rfl⟩:=rb.strI
 exact PyProof.Rows.ne_str (EP.pure S h (.bool _))
theorem TruWP.bool{b:Bool} {Q:Bool->Store->Prop} (h:Q b σ):TruWP C A (.bool b) σ Q X:=by
 intro s a S r
 obtain rfl:=r.boolI
 exact wpAny_truthy_bool (TP.pure S h)
end
section
variable {C:Cx} {A:Around} {env:Env} {ρ:Rho} {σ:Store} {X:XP} {s:Shared}
theorem Z6{h h':Heap} {a:Addr} (hs:Heap.SameBut a h h') (hn:∀o,h.get? a=some o->¬Imm o):TupKeep h h':=fun b o i e=>by
 by_cases q:b=a
 ·subst q;exact absurd i (hn _ e)
 ·exact(hs.2 b q).trans e
theorem Rep.notTup{h:Heap} {a:Addr} {o:O} (r:Rep C h a o):∀o,h.get? a=some o->¬Imm o:=fun o e=>by
 obtain⟨x,hx,h1⟩:=r.isSome
 rw[hx]at e;cases e;exact h1
theorem St.ne_of{a b:Addr} {o:O} (S:St C σ s) (ha:σ a=some o) (hb:σ b=none):b≠a:=fun e=>by rw[e,ha]at hb;cases hb
theorem St.set{o o':O} {a:Addr} {h':Heap} {t:Nat} (S:St C σ s) (ha:σ a=some o) (hb:Heap.SameBut a s.heap h') (r:Rep C h' a o') :
  St C (σ.upd a o') { s with heap:=h',toks:=t }∧Evo σ s.heap (σ.upd a o') h':=by
 have tk:TupKeep s.heap h':=Z6 hb (S.rep a o ha).notTup
 refine⟨⟨fun b x e=>?_,fun b x e=>?_,fun b x e=>?_,S.gens,S.os⟩,fun b x e n=>?_,fun b x e=>?_,fun b x e=>?_,tk⟩
 ·have:b≠a:=fun q=>by
   subst q
   rw[(S.above b o ha).1]at e;cases e
  exact(hb.2 b this).trans (S.base b x e)
 ·by_cases q:b=a
  ·subst q;rw[Store.upd_self]at e;cases e;exact r
  ·rw[Store.upd_ne _ _ q]at e
   exact(S.rep b x e).at (fun y hy=>(hb.2 b q).trans hy) tk
 ·by_cases q:b=a
  ·subst q;exact S.above b o ha
  ·rw[Store.upd_ne _ _ q]at e;exact S.above b x e
 ·exact .inl ((hb.2 b (S.ne_of ha n)).trans e)
 ·left
  by_cases q:b=a
  ·subst q;exact⟨_,ha⟩
  ·rw[Store.upd_ne _ _ q]at e;exact⟨_,e⟩
 ·by_cases q:b=a
  ·subst q;exact⟨_,Store.upd_self ..⟩
  ·exact⟨x,by rw[Store.upd_ne _ _ q];exact e⟩
theorem St.fresh(S:St C σ s):σ s.heap.objs.size=none:=by
 cases q:σ s.heap.objs.size with
 | none=>rfl
 | some o=>
  obtain⟨x,hx,_⟩:=(S.rep _ _ q).isSome
  exact absurd (Heap.lt_size hx) (Nat.lt_irrefl _)
theorem get?_fresh (h:Heap):h.get? h.objs.size=none:=by
 cases q:h.get? h.objs.size with
 | none=>rfl
 | some o=>exact absurd (Heap.lt_size q) (Nat.lt_irrefl _)
theorem Evo.ext{h h':Heap} (k:∀b o,h.get? b=some o->h'.get? b=some o):Evo σ h σ h':=
 ⟨fun b o e _=>.inl (k b o e),fun b o e=>.inl ⟨o,e⟩,fun b o e=>⟨o,e⟩,fun a o i e=>k _ _ e⟩
theorem St.ext{h':Heap} {t:Nat} (S:St C σ s) (k:∀b o,s.heap.get? b=some o->h'.get? b=some o):St C σ { s with heap:=h',toks:=t }:=
 ⟨fun b o e=>k _ _ (S.base b o e),fun a o e=>(S.rep a o e).at (fun x hx=>k _ _ hx) fun _ _ _ e=>k _ _ e,S.above,S.gens,S.os⟩
theorem Z2b(h:Heap) (x:Obj):(h.push x).objs.size=h.objs.size+1:=by
 obtain⟨o,l⟩:=h;simp[Heap.push]
theorem St.baseFresh{a:Addr} (S:St C σ s) (h:C.n₀≤a):C.h₀.get? a=none:=by
 cases q:C.h₀.get? a with
 | none=>rfl
 | some o=>exact absurd (C.low _ _ q) (Nat.not_lt.mpr h)
theorem St.new{x:Obj} {o:O} {t:Nat} (S:St C σ s) (r:Rep C (s.heap.push x) s.heap.objs.size o) :
  St C (σ.upd s.heap.objs.size o) { s with heap:=s.heap.push x,toks:=t }∧Evo σ s.heap (σ.upd s.heap.objs.size o) (s.heap.push x):=by
 revert C σ s x o t;k_extra "e6";intro C σ s x o t S r
 have k:∀b y,s.heap.get? b=some y->(s.heap.push x).get? b=some y:=fun b y e=>Heap.get?_push_of_some _ e
 have S':=S.ext (t:=t) k
 refine⟨⟨S'.base,fun b y e=>?_,fun b y e=>?_,S'.gens,S'.os⟩,fun b y e n=>.inl (k b y e),fun b y e=>?_,fun b y e=>?_,fun a o i e=>k _ _ e⟩
 ·by_cases q:b=s.heap.objs.size
  ·subst q;rw[Store.upd_self]at e;cases e;exact r
  ·rw[Store.upd_ne _ _ q]at e;exact S'.rep b y e
 ·by_cases q:b=s.heap.objs.size
  ·subst q;exact⟨S.baseFresh S.size,.inl S.size⟩
  ·rw[Store.upd_ne _ _ q]at e;exact S.above b y e
 ·by_cases q:b=s.heap.objs.size
  ·subst q;exact .inr (get?_fresh _)
  ·rw[Store.upd_ne _ _ q]at e;exact .inl ⟨_,e⟩
 ·by_cases q:b=s.heap.objs.size
  ·subst q;exact⟨_,Store.upd_self ..⟩
  ·exact⟨y,by rw[Store.upd_ne _ _ q];exact e⟩
theorem St.push{x:Obj} {t:Nat} (S:St C σ s):St C σ { s with heap:=s.heap.push x,toks:=t }:=
 S.ext (fun b y e=>Heap.get?_push_of_some _ e)
theorem Evo.push{h:Heap} {x:Obj}:Evo σ h σ (h.push x):=.ext fun b y e=>Heap.get?_push_of_some _ e
inductive AP(C:Cx) (σ:Store) (h:Heap) (Q:List V->Store->Prop) (vs:List Value) (s':Shared):Prop
 | mk (xs:List V) (σ':Store) (q:Q xs σ') (r:VRs s'.heap vs xs) (S:St C σ' s') (e:Evo σ h σ' s'.heap):AP C σ h Q vs s'
noncomputable def Ags (C:Cx) (A:Around) (env:Env) (pos:Pos) (es:List Expr) (ρ:Rho) (σ:Store) (Q:List V->Store->Prop) (X:XP):Prop:=
 ∀s,St C σ s->Fm C σ s.heap env ρ->wpAny C.M A (spliced (backTo pos (starEach es env))) (AP C σ s.heap Q) X s
theorem Ags.nil{pos:Pos} {Q:List V->Store->Prop} (h:Q [] σ):Ags C A env pos [] ρ σ Q X:=
 fun s S F=>wpAny_items_nil ⟨[],σ,h,.nil,S,.refl ..⟩
theorem Ags.cons{pos:Pos} {e:Expr} {es:List Expr} {Q:List V->Store->Prop}
  (h:Ev C A env e ρ σ (fun x σ1=>Ags C A env pos es ρ σ1 (fun xs σ2=>Q (x::xs) σ2) X) X)
  (he:starEach (e::es) env=(false,eval e env)::starEach es env:=by kernel_rfl):Ags C A env pos (e::es) ρ σ Q X:=by
 intro s S F
 refine wpAny_items_cons (wpAny_mono (h s S F) ?_ fun _ _ z=>z) he
 rintro v s1 ⟨x,σ1,h1,r1,S1,e1⟩
 refine wpAny_mono (h1 s1 S1 (F.evo e1)) ?_ fun _ _ z=>z
 rintro vs s2 ⟨xs,σ2,h2,r2,S2,e2⟩
 exact⟨x::xs,σ2,h2,.cons (r1.mono e2.tup) r2,S2,e1.trans e2⟩
theorem VRs.push{h:Heap} {x:Obj} {vs:List Value} {xs:List V} (r:VRs h vs xs):VRs (h.push x) vs xs:=r.mono fun _ _ _ e=>Heap.get?_push_of_some _ e
theorem Ev.tuple{es:List Expr} {k:Nat} {pos:Pos} {Q:V->Store->Prop} (h:Ags C A env pos es ρ σ (fun xs σ1=>xs.length≤sizeLine∧Q (.tup xs) σ1) X) :
  Ev C A env (.Tuple es k pos) ρ σ Q X:=by
 intro s S F
 refine wpAny_Tuple (wpAny_mono (h s S F) ?_ fun _ _ z=>z)
 rintro vs s1 ⟨xs,σ1,⟨hz,q⟩,r1,S1,e1⟩
 refine⟨by rw[r1.length];exact hz,.tup xs,σ1,q,.tup (n:=0) (Heap.get?_push_size _ rfl) (by simpa using r1.push),S1.push,e1.trans .push⟩
theorem ZE{h:Heap} {vs:List Value} {xs:List V} (r:VRs h vs xs):Rep C (h.push { cls:=.type "list",data:=.seq vs.toArray }) h.objs.size (.list xs):=
 ⟨vs.toArray,⟨0,Heap.get?_push_size _ rfl⟩,by simpa using r.push⟩
theorem Ev.list{es:List Expr} {pos:Pos} {Q:V->Store->Prop} (h:Ags C A env pos es ρ σ (fun xs σ1=>xs.length≤sizeLine∧∀a,σ1 a=none->Q (.ref a) (σ1.upd a (.list xs))) X) :
  Ev C A env (.List es pos) ρ σ Q X:=by
 intro s S F
 refine wpAny_List (wpAny_mono (h s S F) ?_ fun _ _ z=>z)
 rintro vs s1 ⟨xs,σ1,⟨hz,q⟩,r1,S1,e1⟩
 obtain⟨S2,e2⟩:=S1.new (t:=s1.toks) (ZE r1)
 exact⟨by rw[r1.length];exact hz,.ref _,_,q _ S1.fresh,.ref _,S2,e1.trans e2⟩
inductive FV where
 | next|brk|cont|ret (v:V)
abbrev pV:=V->Store->Prop
abbrev pW:=FV->Rho->Store->Prop
abbrev pS:=Value->Shared->Prop
abbrev lO:=List (Addr×O)
theorem Z6x:Nonempty FV:=⟨.next⟩
inductive FR(h:Heap):Flow->FV->Prop where
 | next:FR h .next .next
 | brk:FR h .brk .brk
 | cont:FR h .cont .cont
 | ret {v:Value} {x:V}:VR h v x->FR h (.ret v) (.ret x)
noncomputable def Own (env:Env) (b:Addr):Prop:=b=env.locals∨∃x,env.cells.lookup x=some b
structure EvoF(env:Env) (σ:Store) (h:Heap) (σ':Store) (h':Heap):Prop where
 keep:∀b o,h.get? b=some o->σ b=none->¬Own env b->Kept h' b o
 dom:∀b o,σ' b=some o->(∃o',σ b=some o')∨h.get? b=none
 mono:∀b o,σ b=some o->∃o',σ' b=some o'
 tup:TupKeep h h'
 there:∀b o,h.get? b=some o->Own env b->∃o',h'.get? b=some o'
theorem Evo.evoF{σ':Store} {h h':Heap} (x:Evo σ h σ' h') (hown:∀b,Own env b->σ b=none):EvoF env σ h σ' h':=
 ⟨fun b o e n _=>x.keep b o e n,x.dom,x.mono,x.tup,fun b o e w=>(x.keep b o e (hown b w)).got⟩
theorem EvoF.refl(h:Heap):EvoF env σ h σ h:=⟨fun _ _ e _ _=>.inl e,fun _ _ e=>.inl ⟨_,e⟩,fun _ _ e=>⟨_,e⟩,.refl _,fun _ o e _=>⟨o,e⟩⟩
theorem EvoF.trans{σ1 σ2 σ3:Store} {h1 h2 h3:Heap} (x:EvoF env σ1 h1 σ2 h2) (y:EvoF env σ2 h2 σ3 h3):EvoF env σ1 h1 σ3 h3:=by
 refine⟨fun b o e n w=>?_,fun b o e=>?_,fun b o e=>?_,x.tup.trans y.tup,fun b o e w=>?_⟩
 ·refine(x.keep b o e n w).trans fun o' e'=>y.keep b o' e' ?_ w
  cases q:σ2 b with
  | none=>rfl
  | some o2=>
   rcases x.dom b o2 q with⟨o',e'⟩|e'
   ·rw[n]at e';cases e'
   ·rw[e]at e';cases e'
 ·rcases y.dom b o e with⟨o',e'⟩|e'
  ·exact x.dom b o' e'
  ·cases q:h1.get? b with
   | none=>exact .inr rfl
   | some o1=>
    left
    cases q':σ1 b with
    | some o'=>exact⟨o',rfl⟩
    | none=>
     exfalso
     by_cases w:Own env b
     ·obtain⟨o',z⟩:=x.there b o1 q w
      rw[z]at e';cases e'
     ·obtain⟨o',z⟩:=(x.keep b o1 q q' w).got
      rw[z]at e';cases e'
 ·obtain⟨o',e'⟩:=x.mono b o e
  exact y.mono b o' e'
 ·obtain⟨o',z⟩:=x.there b o e w
  exact y.there b o' z w
theorem Fm.own{h:Heap} (F:Fm C σ h env ρ):∀b,Own env b->σ b=none:=by
 rintro b (rfl|⟨x,e⟩)
 ·exact F.locs
 ·exact(F.ncell x b e).1
inductive SP(C:Cx) (env:Env) (σ:Store) (h:Heap) (Q:pW) (f:Flow) (s':Shared):Prop
 | mk (g:FV) (ρ':Rho) (σ':Store) (q:Q g ρ' σ') (r:FR s'.heap f g) (S:St C σ' s') (F:Fm C σ' s'.heap env ρ') (e:EvoF env σ h σ' s'.heap):SP C env σ h Q f s'
theorem SP.after{σ1:Store} {h h1:Heap} {Q:pW} {f:Flow} {s':Shared} (x:SP C env σ1 h1 Q f s') (k:EvoF env σ h σ1 h1):SP C env σ h Q f s':=
 let ⟨a,b,c,d,e,f,g,i⟩:=x;⟨a,b,c,d,e,f,g,k.trans i⟩
theorem SP.mono{h:Heap} {Q Q':pW} {f:Flow} {s':Shared} (x:SP C env σ h Q f s') (k:∀g ρ σ,Q g ρ σ->Q' g ρ σ):SP C env σ h Q' f s':=
 let ⟨a,b,c,d,e,f,g,i⟩:=x;⟨a,b,c,k _ _ _ d,e,f,g,i⟩
noncomputable def Ex (C:Cx) (A:Around) (env:Env) (st:Stmt) (ρ:Rho) (σ:Store) (Q:pW) (X:XP):Prop:=
 ∀s,St C σ s->Fm C σ s.heap env ρ->wpAny C.M A (exec st env) (SP C env σ s.heap Q) X s
noncomputable def Exs (C:Cx) (A:Around) (env:Env) (st:List Stmt) (ρ:Rho) (σ:Store) (Q:pW) (X:XP):Prop:=
 ∀s,St C σ s->Fm C σ s.heap env ρ->wpAny C.M A (execs st env) (SP C env σ s.heap Q) X s
theorem Exs.mono{ss:List Stmt} {Q Q':pW} (h:Exs C A env ss ρ σ Q X) (k:∀g ρ σ,Q g ρ σ->Q' g ρ σ):Exs C A env ss ρ σ Q' X:=
 fun s S F=>wpAny_mono (h s S F) (fun _ _ z=>z.mono k) fun _ _ z=>z
theorem Ex.mono{ss:Stmt} {Q Q':pW} (h:Ex C A env ss ρ σ Q X) (k:∀g ρ σ,Q g ρ σ->Q' g ρ σ):Ex C A env ss ρ σ Q' X:=
 fun s S F=>wpAny_mono (h s S F) (fun _ _ z=>z.mono k) fun _ _ z=>z
noncomputable def Then (C:Cx) (A:Around) (env:Env) (ss:List Stmt) (Q:pW) (X:XP) (g:FV) (ρ:Rho) (σ:Store):Prop:=
 match g with
 | .next=>Exs C A env ss ρ σ Q X
 | g=>Q g ρ σ
theorem Exs.nil{Q:pW} (h:Q .next ρ σ):Exs C A env [] ρ σ Q X:=
 fun s S F=>wpAny_execs_nil ⟨.next,ρ,σ,h,.next,S,F,.refl _⟩
theorem Exs.cons{st:Stmt} {ss:List Stmt} {Q:pW} (h:Ex C A env st ρ σ (Then C A env ss Q X) X):Exs C A env (st::ss) ρ σ Q X:=by
 intro s S F
 refine wpAny_execs_cons (wpAny_mono (h s S F) ?_ fun _ _ z=>z)
 rintro f s1 ⟨g,ρ1,σ1,h1,r1,S1,F1,e1⟩
 cases r1 with
 | next=>exact wpAny_mono (h1 s1 S1 F1) (fun _ _ z=>z.after e1) fun _ _ z=>z
 | brk=>exact⟨_,_,_,h1,.brk,S1,F1,e1⟩
 | cont=>exact⟨_,_,_,h1,.cont,S1,F1,e1⟩
 | ret r=>exact⟨_,_,_,h1,.ret r,S1,F1,e1⟩
theorem Ex.ret{e:Expr} {pos:Pos} {Q:pW} (h:Ev C A env e ρ σ (fun x σ1=>Q (.ret x) ρ σ1) X):Ex C A env (.Return (some e) pos) ρ σ Q X:=by
 intro s S F
 refine wpAny_Return_some (wpAny_mono (h s S F) ?_ fun _ _ z=>z)
 rintro v s1 ⟨x,σ1,h1,r1,S1,e1⟩
 exact⟨_,_,_,h1,.ret r1,S1,F.evo e1,e1.evoF F.own⟩
theorem Ex.ite{t:Expr} {b1 b2:List Stmt} {pos:Pos} {Q:pW} (h:Tst C A env t ρ σ (fun b σ1=>if b then Exs C A env b1 ρ σ1 Q X else Exs C A env b2 ρ σ1 Q X) X) :
  Ex C A env (.If t b1 b2 pos) ρ σ Q X:=by
 intro s S F
 refine wpAny_If (wpAny_mono (h s S F) ?_ fun _ _ z=>z)
 rintro b s1 ⟨σ1,h1,S1,e1⟩
 cases b
 ·exact wpAny_mono (h1 s1 S1 (F.evo e1)) (fun _ _ z=>z.after (e1.evoF F.own)) fun _ _ z=>z
 ·exact wpAny_mono (h1 s1 S1 (F.evo e1)) (fun _ _ z=>z.after (e1.evoF F.own)) fun _ _ z=>z
noncomputable def Z2r (C:Cx) (l:Addr) (xs:List V):Prop:=∃items,C.h₀.IsList l items∧VRs C.h₀ items.toList xs
noncomputable def LstAt (C:Cx) (σ:Store) (l:Addr) (xs:List V):Prop:=σ l=some (.list xs)∨Z2r C l xs
theorem LstAt.raw{l:Addr} {xs:List V} (h:LstAt C σ l xs) (S:St C σ s):∃items,s.heap.IsList l items∧VRs s.heap items.toList xs:=by
 rcases h with h|⟨items,⟨o,e,r⟩,h2⟩
 ·obtain⟨items,pl,r⟩:=S.rep _ _ h
  exact⟨items,pl.isList,r⟩
 ·exact⟨items,⟨o,S.base _ _ e,r⟩,h2.mono fun _ _ _ e=>S.base _ _ e⟩
end
section
variable {C:Cx} {A:Around} {env:Env} {ρ:Rho} {σ:Store} {X:XP} {s:Shared}
theorem Ex.expr{e:Expr} {pos:Pos} {Q:pW} (h:Ev C A env e ρ σ (fun x σ1=>Q .next ρ σ1) X)
  (hi:interactive env=false:=by kernel_rfl) (hs:swapsWith e none pos.line env=pure false:=by kernel_rfl):Ex C A env (.Expr e pos) ρ σ Q X:=by
 intro s S F
 refine wpAny_Expr_any (wpAny_mono (h s S F) ?_ fun _ _ z=>z) hi hs
 rintro v s1 ⟨x,σ1,h1,r1,S1,e1⟩
 exact⟨_,_,_,h1,.next,S1,F.evo e1,e1.evoF F.own⟩
noncomputable def Asg (C:Cx) (A:Around) (env:Env) (t:Expr) (x:V) (ρ:Rho) (σ:Store) (Q:Rho->Store->Prop) (X:XP):Prop:=
 ∀s v,St C σ s->Fm C σ s.heap env ρ->VR s.heap v x->wpAny C.M A (assign t env v) (fun _ s'=>∃ρ' σ',Q ρ' σ'∧St C σ' s'∧Fm C σ' s'.heap env ρ'∧EvoF env σ s.heap σ' s'.heap) X s
theorem Fm.storeLocal{h h':Heap} {x:Str} {v:Value} {y:V} {m:Str->Option Value} {t:Nat} (S:St C σ s) (F:Fm C σ s.heap env ρ) (hk:env.kindOf x=some .local) (hm:s.heap.Ns env.locals m) (f:∀x v,env.kindOf x=some .local->ρ.get x=some v->∃u,m x=some u∧VR s.heap u v) (hn:h'.Ns env.locals (fun z=>if z=x then some v else m z)) (hs:Heap.SameBut env.locals s.heap h') (r:VR s.heap v y) (hc:env.cells.lookup x=none) :
  St C σ { s with heap:=h',toks:=t }∧Fm C σ h' env (ρ.put x y)∧EvoF env σ s.heap σ h':=by
 revert C env ρ σ s h h' x v y m t;k_extra "e12";intro C env ρ σ s h h' x v y m t S F hk hm f hn hs r hc
 have nt:∀o,s.heap.get? env.locals=some o->¬Imm o:=fun o e=>by obtain⟨o',es,ep,ho,hd,_⟩:=hm;rw[ho]at e;cases e;exact Imm.notDict hd
 have tk:=Z6 hs nt
 have ne:∀b o,σ b=some o->b≠env.locals:=fun b o e q=>by rw[q,F.locs]at e;cases e
 refine⟨⟨fun b o e=>?_,fun b o e=>?_,S.above,S.gens,S.os⟩,⟨F.fn,⟨_,hn,fun z u hz hu=>?_⟩,F.locs,F.abv,fun z c hz=>?_,F.ncell,F.apart⟩,fun b o e n w=>?_,fun b o e=>.inl ⟨o,e⟩,fun b o e=>⟨o,e⟩,tk,fun b o e w=>?_⟩
 ·refine(hs.2 b fun q=>?_).trans (S.base b o e)
  subst q;exact absurd (C.low _ _ e) (Nat.not_lt.mpr F.abv)
 ·exact(S.rep b o e).at (fun y hy=>(hs.2 b (ne b o e)).trans hy) tk
 ·rw[Rho.get_put]at hu
  by_cases q:z=x
  ·subst q;rw[if_pos rfl]at hu;cases hu;exact⟨v,by simp,r.mono tk⟩
  ·rw[if_neg q]at hu
   obtain⟨a,b,d⟩:=f z u hz hu
   exact⟨a,by simp[q,b],d.mono tk⟩
 ·obtain⟨ov,a,b⟩:=F.cell z c hz
  obtain⟨n1,n2,n3⟩:=F.ncell z c hz
  refine⟨ov,a.sameBut hs n2,fun u hu=>?_⟩
  rw[Rho.get_put,if_neg (fun q=>by subst q;rw[hc]at hz;cases hz)]at hu
  obtain⟨p,q1,q2⟩:=b u hu
  exact⟨p,q1,q2.mono tk⟩
 ·exact .inl ((hs.2 b fun q=>w (.inl q)).trans e)
 ·by_cases q:b=env.locals
  ·subst q
   obtain⟨o',_,_,ho,_⟩:=hn
   exact⟨o',ho⟩
  ·exact⟨o,(hs.2 b q).trans e⟩
theorem Asg.loc{x:Str} {pos:Pos} {y:V} {ρ':Rho} {Q:Rho->Store->Prop} (hk:env.kindOf x=some .local) (hc:env.cells.lookup x=none) (hp:ρ.put x y=ρ') (h:Q ρ' σ) :
  Asg C A env (.Name x pos) y ρ σ Q X:=by
 revert C A env ρ σ X x pos y ρ' Q;k_extra "e11";intro C A env ρ σ X x pos y ρ' Q hk hc hp h
 intro s v S F r
 obtain⟨m,hm,f⟩:=F.loc
 refine wpAny_assign_Name (wpAny_storeName_local hk hm (fun h' hn hs=>?_) (by rw[F.fn];rfl))
 obtain⟨a,b,c⟩:=Fm.storeLocal (h:=s.heap) (t:=s.toks+1) S F hk hm f hn hs r hc
 exact⟨_,_,h,a,hp▸b,c⟩
theorem Asg.cel{x:Str} {pos:Pos} {y:V} {c:Addr} {ρ':Rho} {Q:Rho->Store->Prop} (hk:env.kindOf x=some .cell) (hc:env.cells.lookup x=some c) (hp:ρ.put x y=ρ') (h:Q ρ' σ) :
  Asg C A env (.Name x pos) y ρ σ Q X:=by
 revert C A env ρ σ X x pos y c ρ' Q;k_extra "e12";intro C A env ρ σ X x pos y c ρ' Q hk hc hp h
 intro s v S F r
 obtain⟨ov,a,b⟩:=F.cell x c hc
 obtain⟨n1,n2,n3⟩:=F.ncell x c hc
 refine wpAny_assign_Name (wpAny_storeName_cell F.fn hk hc a (fun h' hcl hs=>?_))
 have nt:∀o,s.heap.get? c=some o->¬Imm o:=fun o e=>by obtain⟨o',ho,hd⟩:=a;rw[ho]at e;cases e;exact Imm.notCell hd
 have tk:=Z6 hs nt
 have ne:∀b o,σ b=some o->b≠c:=fun b o e q=>by rw[q,n1]at e;cases e
 obtain⟨m,hm,f⟩:=F.loc
 refine⟨ρ',σ,h,⟨fun b o e=>?_,fun b o e=>?_,S.above,S.gens,S.os⟩,hp▸⟨F.fn,⟨m,hm.sameBut hs n2.symm,fun z u hz hu=>?_⟩,F.locs,F.abv,fun z d hz=>?_,F.ncell,F.apart⟩,fun b o e n w=>?_,fun b o e=>.inl ⟨o,e⟩,fun b o e=>⟨o,e⟩,tk,fun b o e w=>?_⟩
 ·refine(hs.2 b fun q=>?_).trans (S.base b o e)
  subst q;exact absurd (C.low _ _ e) (Nat.not_lt.mpr n3)
 ·exact(S.rep b o e).at (fun y hy=>(hs.2 b (ne b o e)).trans hy) tk
 ·rw[Rho.get_put,if_neg (fun q=>by subst q;rw[hk]at hz;cases hz)]at hu
  obtain⟨a,b,d⟩:=f z u hz hu
  exact⟨a,b,d.mono tk⟩
 ·by_cases q:z=x
  ·subst q
   rw[hc]at hz;cases hz
   exact⟨some v,hcl,fun u hu=>by rw[Rho.get_put,if_pos rfl]at hu;cases hu;exact⟨v,rfl,r.mono tk⟩⟩
  ·have dc:d≠c:=fun e=>q (F.apart z x d hz (e▸hc))
   obtain⟨ov',a',b'⟩:=F.cell z d hz
   refine⟨ov',a'.sameBut hs dc,fun u hu=>?_⟩
   rw[Rho.get_put,if_neg q]at hu
   obtain⟨p,q1,q2⟩:=b' u hu
   exact⟨p,q1,q2.mono tk⟩
 ·exact .inl ((hs.2 b fun q=>w (.inr ⟨x,q▸hc⟩)).trans e)
 ·by_cases q:b=c
  ·subst q
   obtain⟨o',ho,_⟩:=hcl
   exact⟨o',ho⟩
  ·exact⟨o,(hs.2 b q).trans e⟩
theorem Ex.assign{t value:Expr} {pos:Pos} {Q:pW} (h:Ev C A env value ρ σ (fun x σ1=>Asg C A env t x ρ σ1 (fun ρ' σ'=>Q .next ρ' σ') X) X)
  (hs:swapsWithSole [t] value pos.line env=pure false:=by kernel_rfl) (hw:swappedStores [t] value env=pure none:=by kernel_rfl)
  (ht:(assignEach [t] env).map (·.2)=[assign t env]:=by kernel_rfl):Ex C A env (.Assign [t] value pos) ρ σ Q X:=by
 intro s S F
 refine wpAny_Assign_stores (wpAny_mono (h s S F) ?_ fun _ _ z=>z) hs hw
 rintro v s1 ⟨x,σ1,h1,r1,S1,e1⟩
 rw[ht]
 refine wpAny_mono (h1 s1 v S1 (F.evo e1) r1) ?_ fun _ _ z=>z
 rintro _ s2 ⟨ρ',σ',q,S2,F2,e2⟩
 exact⟨_,_,_,q,.next,S2,F2,(e1.evoF F.own).trans e2⟩
noncomputable def AsgO (C:Cx) (A:Around) (env:Env) (ts:List Expr) (xs:List V) (ρ:Rho) (σ:Store) (Q:Rho->Store->Prop) (X:XP):Prop:=
 ∀s vs,St C σ s->Fm C σ s.heap env ρ->VRs s.heap vs xs->wpAny C.M A (assignInOrder ((assignEach ts env).map (·.2)) vs) (fun _ s'=>∃ρ' σ',Q ρ' σ'∧St C σ' s'∧Fm C σ' s'.heap env ρ'∧EvoF env σ s.heap σ' s'.heap) X s
theorem AsgO.nil{Q:Rho->Store->Prop} (h:Q ρ σ):AsgO C A env [] [] ρ σ Q X:=
 fun s vs S F r=>by cases r;exact wpAny_pure ⟨ρ,σ,h,S,F,.refl _⟩
theorem AsgO.cons{t:Expr} {ts:List Expr} {x:V} {xs:List V} {Q:Rho->Store->Prop} (h:Asg C A env t x ρ σ (fun ρ1 σ1=>AsgO C A env ts xs ρ1 σ1 Q X) X) (ht:(assignEach (t::ts) env).map (·.2)=assign t env::(assignEach ts env).map (·.2):=by kernel_rfl):AsgO C A env (t::ts) (x::xs) ρ σ Q X:=by
 revert C A env ρ σ X t ts x xs Q;k_extra "e11";intro C A env ρ σ X t ts x xs Q h ht
 intro s vs S F r
 cases r with
 | cons r1 r2=>
  rw[ht]
  refine wpAny_assignInOrder_more (wpAny_mono (h s _ S F r1) ?_ fun _ _ z=>z)
  rintro _ s1 ⟨ρ1,σ1,q,S1,F1,e1⟩
  refine wpAny_mono (q s1 _ S1 F1 (r2.mono e1.tup)) ?_ fun _ _ z=>z
  rintro _ s2 ⟨ρ2,σ2,q2,S2,F2,e2⟩
  exact⟨ρ2,σ2,q2,S2,F2,e1.trans e2⟩
theorem Asg.tup{ts:List Expr} {xs:List V} {k:Nat} {pos:Pos} {Q:Rho->Store->Prop} (hh:A.handled=none) (hl:ts.length=xs.length) (h:AsgO C A env ts xs ρ σ Q X) (hn:(assignEach ts env).length=ts.length:=by kernel_rfl) (hstar:(assignEach ts env).findIdx? (·.1)=none:=by kernel_rfl):Asg C A env (.Tuple ts k pos) (.tup xs) ρ σ Q X:=by
 revert C A env ρ σ X ts xs k pos Q;k_extra "e11";intro C A env ρ σ X ts xs k pos Q hh hl h hn hstar
 intro s v S F r
 cases r with
 | @tup a items n _ ha hr=>
  refine wpAny_assign_Tuple hh (t:=a) (items:=items) ⟨_,ha,rfl,n,rfl⟩ ?_ hstar (fun h' he=>?_)
  ·rw[hn,hl,←hr.length];simp
  ·have k:∀b o,s.heap.get? b=some o->h'.get? b=some o:=fun b o e=>he b o (Nat.ne_of_lt (Heap.lt_size e)) e
   have e0:Evo σ s.heap σ h':=.ext k
   refine wpAny_mono (h { s with heap:=h' } items.toList (S.ext (t:=s.toks) k) (F.evo e0) (hr.mono e0.tup)) ?_ fun _ _ z=>z
   rintro _ s2 ⟨ρ2,σ2,q2,S2,F2,e2⟩
   exact⟨ρ2,σ2,q2,S2,F2,(e0.evoF F.own).trans e2⟩
end
noncomputable def FV.val:FV->V
 | .ret v=>v
 | _=>.none
noncomputable def fval:Flow->Value
 | .ret v=>v
 | _=>.none
theorem FR.val{h:Heap} {f:Flow} {g:FV} (r:FR h f g):VR h (fval f) g.val:=by
 cases r<;>first|exact .none|assumption
noncomputable def CallWP (C:Cx) (A:Around) (f:Value) (args:List V) (σ:Store) (Q:pV) (X:XP):Prop:=
 ∀s vs,St C σ s->VRs s.heap vs args->wpAny C.M A (call f vs) (EP C σ s.heap Q) X s
section
variable {kindOf:Str->Option NameKind} {h:Heap}
theorem Z1r{x:Str}:∀(names:List Str) (vals:List Value) (m:Str->Option Value),x∉names->bindL kindOf (names.zip vals) m x=m x
 | [],_,_,_=>rfl
 | _::_,[],_,_=>rfl
 | n::names,v::vals,m,hx=>by
  show bindL kindOf (names.zip vals) _ x=m x
  rw[Z1r names vals _ fun q=>hx (.tail _ q)]
  split
  ·exact if_neg fun(q:x=n)=>hx (q▸.head _)
  ·rfl
theorem Z1s{x:Str}:∀(names:List Str) (vals:List Value) (m:Str->Option Value),x∉names->bindC kindOf (names.zip vals) m x=m x
 | [],_,_,_=>rfl
 | _::_,[],_,_=>rfl
 | n::names,v::vals,m,hx=>by
  show bindC kindOf (names.zip vals) _ x=m x
  rw[Z1s names vals _ fun q=>hx (.tail _ q)]
  split
  ·rfl
  ·exact if_neg fun(q:x=n)=>hx (q▸.head _)
theorem Z3W{x:Str} {y:V}:∀(names:List Str) (vals:List Value) (args:List V) (m:Str->Option Value),VRs h vals args->names.Nodup->kindOf x=some .local->
  Rho.get (names.zip args) x=some y->∃u,bindL kindOf (names.zip vals) m x=some u∧VR h u y:=by
 revert kindOf h x y;k_extra "e4";intro kindOf h x y
 intro names
 induction names with
 | nil=>intro _ _ _ _ _ _ e;cases e
 | cons n names ih=>
  intro vals args m rr nd hk e
  cases args with
  | nil=>cases e
  | cons a args=>
  obtain⟨v,vals,rfl,r,rs⟩:=rr.consI
  have nd':=List.nodup_cons.mp nd
  show ∃u,bindL kindOf (names.zip vals) _ x=some u∧_
  have e':(if x=n then some a else Rho.get (names.zip args) x)=some y:=e
  by_cases q:x=n
  ·subst q
   rw[if_pos rfl]at e';cases e'
   rw[Z1r names vals _ nd'.1,if_pos hk]
   exact⟨v,if_pos rfl,r⟩
  ·rw[if_neg q]at e'
   exact ih vals args _ rs nd'.2 hk e'
theorem Z3X{x:Str} {y:V}:∀(names:List Str) (vals:List Value) (args:List V) (m:Str->Option Value),VRs h vals args->names.Nodup->kindOf x≠some .local->
  Rho.get (names.zip args) x=some y->∃u,bindC kindOf (names.zip vals) m x=some u∧VR h u y:=by
 intro names
 induction names with
 | nil=>intro _ _ _ _ _ _ e;cases e
 | cons n names ih=>
  intro vals args m rr nd hk e
  cases args with
  | nil=>cases e
  | cons a args=>
  obtain⟨v,vals,rfl,r,rs⟩:=rr.consI
  have nd':=List.nodup_cons.mp nd
  show ∃u,bindC kindOf (names.zip vals) _ x=some u∧_
  have e':(if x=n then some a else Rho.get (names.zip args) x)=some y:=e
  by_cases q:x=n
  ·subst q
   rw[if_pos rfl]at e';cases e'
   rw[Z1s names vals _ nd'.1,if_neg hk]
   exact⟨v,if_pos rfl,r⟩
  ·rw[if_neg q]at e'
   exact ih vals args _ rs nd'.2 hk e'
end
set_option tactic.hygienic true in
theorem ZF:∀(names:List (Str×NameKind)) (n:Nat) (acc:List (Str×Addr)) (x:Str) (c:Addr),(x,c)∈cellsFrom n names acc->(x,c)∈acc∨(x,NameKind.cell)∈names
 | [],_,_,_,_,h=>.inl h
 | (nm,k)::r,n,acc,x,c,h=>by
  unfold cellsFrom at h
  split at h
  ·rename_i hk
   rcases ZF r _ _ x c h with q|q
   ·rcases List.mem_cons.mp q with q|q
    ·cases q
     right
     rw[←beq_iff_eq.mp hk]
     exact .head _
    ·exact .inl q
   ·exact .inr (.tail _ q)
  ·rcases ZF r _ _ x c h with q|q
   ·exact .inl q
   ·exact .inr (.tail _ q)
noncomputable def Zc (scope:Scope):Bool:=scope.names.all fun p=>p.2 != .cell||scope.names.lookup p.1==some .cell
section
variable {C:Cx} {A:Around} {env:Env} {ρ:Rho} {σ:Store} {X:XP} {s:Shared}
theorem St.callee{fd:FuncData} {f:Addr} {names:List Str} {vals:List Value} {args:List V} {s₁:Shared} (S:St C σ s) (r:VRs s.heap vals args) (nd:names.Nodup) (hk:fd.scope.kind=.function) (hsc:Zc fd.scope=true) (x:InCallC s (callEnvC fd s.heap.objs.size f).locals (bindL (callEnvC fd s.heap.objs.size f).kindOf (names.zip vals) fun _=>none) (callEnvC fd s.heap.objs.size f).cells
    (bindC (callEnvC fd s.heap.objs.size f).kindOf (names.zip vals) fun _=>none) s₁) :
  St C σ s₁∧Fm C σ s₁.heap (callEnvC fd s.heap.objs.size f) (names.zip args)∧(∀b o,s.heap.get? b=some o->s₁.heap.get? b=some o):=by
 revert C σ s fd f names vals args s₁;k_extra "e9";intro C σ s fd f names vals args s₁ S r nd hk hsc x
 obtain⟨⟨⟨h,tk,rfl⟩,ns,keep,fr⟩,cell,apart,above⟩:=x
 have L:(callEnvC fd s.heap.objs.size f).locals=s.heap.objs.size:=rfl
 have e0:Evo σ s.heap σ h:=.ext keep
 have fresh:∀b,s.heap.objs.size≤b->σ b=none:=fun b hb=>by
  cases q:σ b with
  | none=>rfl
  | some o=>
   obtain⟨y,hy,_⟩:=(S.rep _ _ q).isSome
   exact absurd (Heap.lt_size hy) (Nat.not_lt.mpr hb)
 have up:∀n c,(callEnvC fd s.heap.objs.size f).cells.lookup n=some c->s.heap.objs.size<c:=fun n c hc=>L▸above n c (mem_of_lookup hc)
 refine⟨S.ext keep,⟨hk,⟨_,ns,fun y v hy hv=>Z3W names vals args _ (r.mono e0.tup) nd hy hv⟩,fresh _ (L▸Nat.le_refl _),L▸S.size,fun y c hc=>⟨_,cell y c hc,fun v hv=>?_⟩,fun y c hc=>?_,fun y z c hy hz=>?_⟩,keep⟩
 ·refine Z3X names vals args _ (r.mono e0.tup) nd ?_ hv
  rcases ZF _ _ _ _ _ (mem_of_lookup hc) with q|q
  ·cases q
  ·have:=List.all_eq_true.mp hsc _ q
   intro z
   have z':fd.scope.names.lookup y=some .local:=z
   simp only[bne_self_eq_false,Bool.false_or,beq_iff_eq]at this
   rw[z']at this;cases this
 ·have:=up y c hc
  exact⟨fresh c (Nat.le_of_lt this),fun q=>by rw[q,L]at this;exact Nat.lt_irrefl _ this,Nat.le_trans S.size (Nat.le_of_lt this)⟩
 ·exact name_of_addr apart (mem_of_lookup hy) (mem_of_lookup hz)
theorem EP.ret{s₁:Shared} {fd:FuncData} {f:Addr} {Q:pV} {fl:Flow} {s':Shared} (S:St C σ s) (keep:∀b o,s.heap.get? b=some o->s₁.heap.get? b=some o)
  (hup:∀n c,(callEnvC fd s.heap.objs.size f).cells.lookup n=some c->s.heap.objs.size<c)
  (z:SP C (callEnvC fd s.heap.objs.size f) σ s₁.heap (fun g _ σ'=>Q g.val σ') fl s'):EP C σ s.heap Q (fval fl) s':=by
 obtain⟨g,ρ',σ',q,r,S',F',e⟩:=z
 refine⟨g.val,σ',q,r.val,S',fun b o hb n=>?_,fun b o hb=>?_,e.mono,fun a o i h=>e.tup _ _ i (keep _ _ h)⟩
 ·refine e.keep b o (keep b o hb) n ?_
  have hlt:=Heap.lt_size hb
  rintro(q|⟨x,hx⟩)
  ·rw[q]at hlt;exact Nat.lt_irrefl _ hlt
  ·exact absurd (hup x b hx) (Nat.not_lt.mpr (Nat.le_of_lt hlt))
 ·rcases e.dom b o hb with h|h
  ·exact .inl h
  ·right
   cases q:s.heap.get? b with
   | none=>rfl
   | some y=>rw[keep b y q]at h;cases h
theorem CallWP.fn{f:Addr} {o:Obj} {fd:FuncData} {body:List Stmt} {names:List Str} {args:List V} {Q:pV} (ho:C.h₀.get? f=some o) (hd:o.data=.func fd) (hlim:C.h₀.NoLimit) (hcd:C.h₀.CodeRec fd.code fd.qualname) (hbody:fd.body=.stmts body) (hbind:∀vals:List Value,vals.length=args.length->bindArgs fd ⟨vals,[]⟩=pure (names.zip vals)) (hclo:fd.closure=[]) (nd:names.Nodup) (hkind:∀x∈names,fd.scope.names.lookup x=some .local∨(fd.scope.names.lookup x=some .cell∧∀L,((cellsFrom L fd.scope.names []).lookup x).isSome=true)) (hroom:A.depth<recursionLimit) (hsc:Zc fd.scope=true) (hco:fd.scope.isCoroutine=false) (hgen:fd.scope.isGenerator=false) (hk:fd.scope.kind=.function) (h:∀L,Exs C (A.deeper (callEnvC fd L f)) (callEnvC fd L f) body (names.zip args) σ (fun g _ σ'=>Q g.val σ') (fun _ _=>False)):CallWP C A (.ref f) args σ Q X:=by
 revert C A σ X f o fd body names args Q;k_extra "e11";intro C A σ X f o fd body names args Q ho hd hlim hcd hbody hbind hclo nd hkind hroom hsc hco hgen hk h
 intro s vs S r
 have hk':∀b o,C.h₀.get? b=some o->s.heap.get? b=some o:=S.base
 refine wpAny_call (codeAny_call_cells (fd:=fd) hroom (hk' _ _ ho) hd (hlim.keeps hk') (hcd.keeps hk') hbody (hbind vs r.length) hclo ?_ (fun s₁ x=>?_) hco hgen hk)
 ·intro y hy
  rcases hkind y.1 (List.of_mem_zip hy).1 with q|⟨q,q'⟩
  ·exact .inl q
  ·exact .inr ⟨q,q' _⟩
 ·obtain⟨S₁,F₁,keep⟩:=S.callee r nd hk hsc x
  refine wpAny_mono (h s.heap.objs.size s₁ S₁ F₁) (fun fl s' z=>?_) (fun _ _ z=>z.elim)
  have y:=EP.ret S keep (fun n c hc=>x.above n c (mem_of_lookup hc)) z
  cases fl<;>exact y
end
section
variable {C:Cx} {A:Around} {env:Env} {ρ:Rho} {σ:Store} {X:XP} {s:Shared}
theorem St.K(S:St C σ s):C.K.In s.heap:=fun a o e=>S.base _ _ (C.KX a o e)
theorem VR.base{v:Value} {x:V} (r:VR C.h₀ v x) (S:St C σ s):VR s.heap v x:=r.mono fun _ _ _ e=>S.base _ _ e
theorem Ev.glob{x:Str} {pos:Pos} {v:Value} {y:V} {Q:pV} (hk:env.kindOf x=some .globalImplicit) (e:nsIn C.K mainGlobals x=some (some v)) (r:VR C.h₀ v y) (h:Q y σ)
  (hg:env.globals=mainGlobals) (hd:(x==("__debug__":Str))=false):Ev C A env (.Name x pos) ρ σ Q X:=by
 intro s S F
 refine Calls.Name_function_global F.fn hk (Calls.loadGlobal_global (mg:=C.mg) ?_ (mg_of C.KX C.hg e) (EP.pure S h (r.base S))) hd
 rw[hg];exact C.hg.keeps S.base
theorem Ev.gblt{x:Str} {pos:Pos} {v:Value} {y:V} {Q:pV} (hk:env.kindOf x=some .globalImplicit) (e:nsIn C.K mainGlobals x=some none) (hv:bootBuiltins x=some v) (r:VR C.h₀ v y) (h:Q y σ)
  (hn:x≠"__name__") (hg:env.globals=mainGlobals) (hb:env.builtins=builtinsNs) (hd:(x==("__debug__":Str))=false):Ev C A env (.Name x pos) ρ σ Q X:=by
 intro s S F
 refine Calls.Name_function_global F.fn hk (Calls.loadGlobal_builtin (mg:=C.mg) (mb:=C.mb) ?_ (mg_none_of C.KX C.hg e) ?_ ((C.blt x hn).trans hv) (EP.pure S h (r.base S))) hd
 ·rw[hg];exact C.hg.keeps S.base
 ·rw[hb];exact C.hb.keeps S.base
noncomputable def Kp (C:Cx) (f:Value):Prop:=∀h:Heap,(∀b o,C.h₀.get? b=some o->h.get? b=some o)->∃k,(k=Keeper.frame∨k=Keeper.machine∨k=Keeper.boundFrame)∧Looks C.M h (keeperOf f) k
theorem Kp.ref{f:Value} (e:keepIn C.K f=true):Kp C f:=fun h k=>keeps_K e h fun a o q=>k _ _ (C.KX a o q)
theorem Kp.blt{i:String}:Kp C (.builtin i):=fun h k=>⟨.machine,.inr (.inl rfl),.now⟩
theorem Kp.typ{i:String}:Kp C (.type i):=fun h k=>⟨.machine,.inr (.inl rfl),.now⟩
theorem Z1t{M:Model} {E:XP} {f:Value} {Q:Args->Shared->Prop}:∀{trees:List (Bool×Sem Value)},trees.any (·.1)=false->wpAny M A (spliced trees) (fun vs s'=>Q ⟨vs,[]⟩ s') E s->wpAny M A (evalArgs f true trees []) Q E s
 | [],_,h=>by
  unfold evalArgs
  show wpAny M A (spliced []>>=_) Q E s
  refine wpAny_bind (wpAny_mono h (fun vs s' h'=>?_) fun _ _ x=>x)
  refine wpAny_holding ?_
  exact wpAny_bind (wpAny_pure (wpAny_bind (wpAny_pure (wpAny_pure h'))))
 | (false,x)::rest,_,h=>Calls.evalArgs_plain h
 | (true,x)::rest,e,_=>by simp at e
theorem Zi{pos:Pos} {f:Value} {first:List Value} {fx:List V} {args:List Expr} {Q:pV} (kp:Kp C f) (S:St C σ s) (F:Fm C σ s.heap env ρ) (rf:VRs s.heap first fx)
  (h:Ags C A env pos args ρ σ (fun xs σ1=>CallWP C A f (fx++xs) σ1 Q X) X)
  (he:(backTo pos (starEach args env)).any (·.1)=false) :
  wpAny C.M A (callWith pos f first (backTo pos (starEach args env)) []) (EP C σ s.heap Q) X s:=by
 refine callWith_of (P:=fun h=>∀b o,C.h₀.get? b=some o->h.get? b=some o) (by rw[he];rfl) kp ?_
 refine Z1t he (wpAny_mono (h s S F) ?_ fun _ _ z=>z)
 rintro vs s1 ⟨xs,σ1,q,r1,S1,e1⟩
 exact⟨S1.base,wpAny_mono (q s1 _ S1 ((rf.mono e1.tup).append r1)) (fun _ _ z=>z.after e1) fun _ _ z=>z⟩
theorem Z1B{kvs:List (Str×Value)} {h:Heap} {dx:Addr} (D:h.DictOf (strKind C.prog C.w) dx kvs):∃es n,h.get? dx=some (dictOf es n)∧Pairs (strKind C.prog C.w) es kvs∧KeysOf (strKind C.prog C.w) es.toArray∧(kvs.map (·.1)).Nodup:=by
 revert C kvs h dx;k_extra "e4";intro C kvs h dx D
 obtain⟨⟨c,d,dt,sl⟩,es,ep,ho,⟨hc,hd,hs⟩,hdt,hk,hp,hn⟩:=D
 dsimp only at hc hd hs hdt
 subst hc hd hs hdt
 exact⟨es.toList,ep,by simpa using ho,hp,by simpa using hk,hn⟩
theorem PR.find{h:Heap} {K:Type} [DecidableEq K] {x:K} {y:V} {kvs:List (K×Value)} {es:List (K×V)} (z:PR h kvs es):(es.find? fun p=>decide (p.1=x)).map (·.2)=some y->∃v,(kvs.find? fun p=>decide (p.1=x)).map (·.2)=some v∧VR h v y:=by
 induction z with
 | nil=>intro e;cases e
 | @cons k _ _ _ _ r rs ih=>
  intro e
  by_cases q:k=x
  ·subst q
   simp only[List.find?_cons,decide_true,Option.map_some,Option.some.injEq]at e ⊢
   subst e
   exact⟨_,rfl,r⟩
  ·simp only[List.find?_cons,q,decide_false]at e ⊢
   exact ih e
theorem PR.find_none{h:Heap} {K:Type} [DecidableEq K] {x:K} {kvs:List (K×Value)} {es:List (K×V)} (z:PR h kvs es):(es.find? fun p=>decide (p.1=x))=none->(kvs.find? fun p=>decide (p.1=x))=none:=by
 induction z with
 | nil=>intro _;rfl
 | @cons k _ _ _ _ r rs ih=>
  intro e
  by_cases q:k=x
  ·subst q;simp at e
  ·simp only[List.find?_cons,q,decide_false]at e ⊢
   exact ih e
theorem Z4I(x:Str) (v:Value):v.isStr x=Value.isStrOf x v:=by cases v<;>rfl
theorem Z2c(x:Str):(fun e:DictEntry=>e.key.isStr x)=fun e=>(strKind C.prog C.w).is x e.key:=by
 funext e;exact Z4I x e.key
theorem Z1c{es:List DictEntry} (hk:KeysOf (strKind C.prog C.w) es.toArray):es.any (·.refKey)=false:=by
 rw[List.any_eq_false]
 intro e he
 obtain⟨k,q,_⟩:=hk e (by simpa using he)
 obtain⟨t,hx⟩:=Value.isStrOf_shape q
 simp[DictEntry.refKey,hx]
theorem Z3c{kvs:List (Str×Value)} {es:List DictEntry} {x:Str} (hp:Pairs (strKind C.prog C.w) es kvs) (hk:KeysOf (strKind C.prog C.w) es.toArray):getL x es=some (valueAt kvs x):=by
 revert C kvs es x;k_extra "e4";intro C kvs es x hp hk
 have:=hp.find x
 unfold getL
 rw[Z2c (C:=C)]
 cases q:es.find? fun e=>(strKind C.prog C.w).is x e.key with
 | some e=>rw[q]at this;simpa using this
 | none=>
  rw[q]at this
  dsimp only
  rw[Z1c hk,←this]
  rfl
noncomputable def sget (es:List (Str×V)) (x:Str):Option V:=(es.find? fun p=>decide (p.1=x)).map (·.2)
theorem Ev.attr{o:Expr} {name:Str} {pos:Pos} {Q:pV} (h:Ev C A env o ρ σ (fun x σ1=>∃a c dx es y attr,x=.ref a∧σ1 a=some (.inst c dx)∧σ1 dx=some (.sd es)∧sget es name=some y∧plainGet C.K c name=true∧hasDictIn C.K c=true∧
   findIn C.K (.ref c) name=some attr∧noGet C.K attr=true∧(∀i,y≠.blt i)∧Q y σ1) X) (hbase:attributeBase o name env (eval o env)=eval o env:=by kernel_rfl):Ev C A env (.Attribute o name pos) ρ σ Q X:=by
 revert C A env ρ σ X o name pos Q;k_extra "e10";intro C A env ρ σ X o name pos Q h hbase
 intro s S F
 rw[arm_eval_Attribute,hbase]
 refine wpAny_bind (wpAny_mono (h s S F) ?_ fun _ _ z=>z)
 rintro v s1 ⟨x,σ1,⟨a,c,dx,es,y,attr,rfl,ha,hdx,hy,k1,k2,k3,k4,k5,q⟩,r1,S1,e1⟩
 cases r1
 have I0:=S1.rep _ _ ha
 obtain⟨kvs,D,pr⟩:=S1.rep _ _ hdx
 obtain⟨des,n,hd,hp,hk,hn⟩:=Z1B D
 obtain⟨u,hu,ru⟩:=pr.find (x:=name) (y:=y) hy
 have hv:handedIn u=true:=by
  cases ru<;>try rfl
  exact absurd rfl (k5 _)
 refine wpAny_bind (wpAny_standAt (wpAny_bind (wpAny_holding ?_)))
 refine get_value S1.K ⟨I0,rfl,rfl,hd⟩ (plainGet_of k1).1 (findObj_own k2 k3 k4 ?_) hv ?_
 ·rw[lookIn_dict,Z3c hp hk];exact congrArg some hu
 ·refine wpAny_bind (wpAny_letTemporaryGo (wpAny_pure ?_))
  exact⟨y,σ1,q,ru,S1.toks _,e1⟩
end
noncomputable def sput:List (Str×V)->Str->V->List (Str×V)
 | [],x,v=>[(x,v)]
 | (y,u)::r,x,v=>if x=y then(x,v)::r else(y,u)::sput r x v
section
variable {C:Cx} {A:Around} {env:Env} {ρ:Rho} {σ:Store} {X:XP} {s:Shared}
theorem PR.length{K:Type} {h:Heap} {a:List (K×Value)} {b:List (K×V)} (z:PR h a b):a.length=b.length:=by
 induction z with
 | nil=>rfl
 | cons _ _ ih=>exact congrArg (·+1) ih
theorem Z1u{K:Type} [DecidableEq K] {k x:K} {u v:Value} {r:List (K×Value)} (hn:(((k,u)::r).map (·.1)).Nodup) :
  stored ((k,u)::r) x v=if x=k then(x,v)::r else(k,u)::stored r x v:=by
 by_cases q:x=k
 ·subst q
  have:x∉r.map (·.1):=(List.nodup_cons.mp hn).1
  simp only[stored,List.any_cons,decide_true,Bool.true_or,if_true,List.map_cons]
  rw[map_store_of_not_mem r x v this]
 ·have q':¬k=x:=fun e=>q e.symm
  simp only[stored,List.any_cons,q',decide_false,Bool.false_or,List.map_cons,if_false,q]
  split<;>rfl
theorem PR.stored{h:Heap} {x:Str} {v:Value} {y:V} (r:VR h v y) {kvs:List (Str×Value)} {es:List (Str×V)} (z:PR h kvs es):(kvs.map (·.1)).Nodup->PR h (stored kvs x v) (sput es x y):=by
 induction z with
 | nil=>
  intro _
  show PR h (PySem.stored [] x v) [(x,y)]
  simp only[PySem.stored,List.any_nil,Bool.false_eq_true,if_false,List.nil_append]
  exact .cons r .nil
 | @cons k _ _ _ _ a b ih=>
  intro hn
  rw[Z1u hn]
  unfold sput
  by_cases q:x=k
  ·rw[if_pos q,if_pos q];exact .cons r b
  ·rw[if_neg q,if_neg q];exact .cons a (ih (List.nodup_cons.mp hn).2)
theorem Z2x{h:Heap} {d:Addr} {kvs:List (Str×Value)} {name:Str} {v:Value} {t:Tok} (D:h.DictOf (strKind C.prog C.w) d kvs) :
  ∃es n,(h.update d (Obj.putName name (hashStr C.w name) (.str name t) v)).get? d=some (dictOf es n)∧es.length≤kvs.length+1∧
  (h.update d (Obj.putName name (hashStr C.w name) (.str name t) v)).DictOf (strKind C.prog C.w) d (stored kvs name v):=by
 revert C h d kvs name v t;k_extra "e7";intro C h d kvs name v t D
 obtain⟨⟨c,dd,dt,sl⟩,es,ep,ho,⟨hc,hd,hs⟩,hdt,hk,hp,hn⟩:=D
 dsimp only at hc hd hs hdt
 subst hc hd hs hdt
 have hkey:(strKind C.prog C.w).is name (.str name t)=true:=by show(name==name)=true;simp
 have hidx:(es.findIdx? fun e=>(strKind C.prog C.w).is name e.key)=kvs.findIdx? fun kv=>decide (kv.1=name):=by
  rw[←hp.findIdx name];obtain⟨l⟩:=es;simp
 have hlen:=hp.length
 have e0:(es.findIdx? fun e=>e.key.isStr name)=es.findIdx? fun e=>(strKind C.prog C.w).is name e.key:=by rw[Z2c (C:=C)]
 cases hi:es.findIdx? fun e=>(strKind C.prog C.w).is name e.key with
 | some i=>
  have e1:Obj.putName name (hashStr C.w name) (.str name t) v ⟨.type "dict",none,.dict es ep,#[]⟩=dictOf (es.modify i fun e=>{ e with val:=v }).toList ep:=by
   rw[Obj.putName_eq];unfold Obj.putNameByArray;dsimp only;rw[e0,hi]
  have g:(h.update d (Obj.putName name (hashStr C.w name) (.str name t) v)).get? d=some (dictOf (es.modify i fun e=>{ e with val:=v }).toList ep):=by
   rw[Heap.get?_update_self _ ho (by rw[e1];rfl),e1]
  refine⟨_,_,g,by simp at hlen ⊢;exact Y38 hlen,_,_,ep,g,⟨rfl,rfl,rfl⟩,rfl,by rw[Array.toArray_toList];exact hk.modify i v,?_,?_⟩
  ·rw[stored,if_pos (any_of_findIdx_some (hidx▸hi))]
   have hl:(es.toList.findIdx? fun e=>(strKind C.prog C.w).is name e.key)=some i:=by rw[←hi];obtain⟨l⟩:=es;simp
   have:=hp.modify hn hl v
   obtain⟨l⟩:=es
   simpa using this
  ·rw[stored,if_pos (any_of_findIdx_some (hidx▸hi)),keys_map_store];exact hn
 | none=>
  have hnot:name∉kvs.map (·.1):=not_mem_of_findIdx_none (hidx▸hi)
  have hany:¬(kvs.any fun kv=>decide (kv.1=name))=true:=by
   rw[List.any_eq_true];rintro⟨kv,hkv,he⟩
   exact hnot (List.mem_map.mpr ⟨kv,hkv,of_decide_eq_true he⟩)
  have e1:Obj.putName name (hashStr C.w name) (.str name t) v ⟨.type "dict",none,.dict es ep,#[]⟩=dictOf (es.push ⟨hashStr C.w name,.str name t,v⟩).toList (ep+1):=by
   rw[Obj.putName_eq];unfold Obj.putNameByArray;dsimp only;rw[e0,hi]
  have g:(h.update d (Obj.putName name (hashStr C.w name) (.str name t) v)).get? d=some (dictOf (es.push ⟨hashStr C.w name,.str name t,v⟩).toList (ep+1)):=by
   rw[Heap.get?_update_self _ ho (by rw[e1];rfl),e1]
  refine⟨_,_,g,by simp at hlen ⊢;exact Y2s hlen,_,_,ep+1,g,⟨rfl,rfl,rfl⟩,rfl,by rw[Array.toArray_toList];exact hk.push hkey v,?_,?_⟩
  ·rw[stored,if_neg hany]
   have:=hp.append hkey (hashStr C.w name) v
   obtain⟨l⟩:=es
   simpa using this
  ·rw[stored,if_neg hany,List.map_append,List.nodup_append]
   refine⟨hn,by simp,?_⟩
   intro a ha b hb
   simp only[List.map_cons,List.map_nil,List.mem_singleton]at hb
   subst hb
   exact fun e=>hnot (e▸ha)
theorem Z2y{x c dx:Addr} {kvs:List (Str×Value)} {name:Str} {v:Value} {E:XP} {Q:Unit->Shared->Prop} (KX:C.K.In s.heap) (hx:s.heap.get? x=some (Z2q c dx)) (D:s.heap.DictOf (strKind C.prog C.w) dx kvs) (hs:findIn C.K (.ref c) "__setattr__" = some (some (.builtin "object.__setattr__"))) (hp:plainOver C.K c=true) (ht:takerIn C.K c name=some none) (hh:hasDictIn C.K c=true) (hz:kvs.length≤1000) (h:∀h',h'.DictOf (strKind C.prog C.w) dx (stored kvs name v)->Heap.SameBut dx s.heap h'->Q () { s with heap:=h',toks:=s.toks+1+1 }):wpAny C.M A (setAttr (.ref x) name v) Q E s:=by
 revert C A s x c dx kvs name v E Q;k_extra "e11";intro C A s x c dx kvs name v E Q KX hx D hs hp ht hh hz h
 obtain⟨es,n,hd,hpr,hk,hn⟩:=Z1B D
 have I:InstAt s.heap x (Z2q c dx) c (some (dictOf es n)):=⟨hx,rfl,rfl,hd⟩
 refine set_plain KX I hs (osa_open (s:={ s with toks:=s.toks+1 }) KX I hp ht fun b=>?_)
 obtain⟨cd,hc,hd'⟩:=any_some hh
 refine wpAny_bind (wpAny_pure (wpAny_bind (wpAny_bind (wpAny_loadPart (s:={ s with toks:=s.toks+1 }) hx (wpAny_bind (Looks.here (s:={ s with toks:=s.toks+1 }) (looks_clsIn KX hc) ?_))))))
 rw[hd']
 refine wpAny_pure (a:=some dx) (wpAny_bind (wpAny_pure (wpAny_bind ?_)))
 unfold nsSet
 refine wpAny_bind (wpAny_bind (wpAny_askSetting (wpAny_pure (wpAny_bind (wpAny_mkText (wpAny_bind (wpAny_loadPart (s:={ s with toks:=s.toks+1+1 }) hd ?_)))))))
 have cc:(!es.toArray.any (·.key.isStr name)&&es.toArray.any (·.refKey))=false:=by
  rw[←Array.any_toList,←Array.any_toList]
  simp only[Z1c hk,Bool.and_false]
 dsimp only
 rw[aRefKeyMayBeTheName_at,cc]
 obtain⟨es',n',g,hl,D'⟩:=Z2x (name:=name) (v:=v) (t:=s.toks+1) D
 refine wpAny_updatePart (s:={ s with toks:=s.toks+1+1 }) hd ?_
 refine wpAny_bind (wpAny_lookBehind g (pastItsLine_dict (by rw[List.size_toArray,sizeLine_eq];exact Y6k hz hl)) ?_)
 exact wpAny_pure (h _ D' (Heap.SameBut.update ..))
theorem Asg.attr{o:Expr} {name:Str} {pos:Pos} {y:V} {Q:Rho->Store->Prop} (h:Ev C A env o ρ σ (fun x σ1=>∃a c dx es,x=.ref a∧σ1 a=some (.inst c dx)∧σ1 dx=some (.sd es)∧es.length≤1000∧
   findIn C.K (.ref c) "__setattr__" = some (some (.builtin "object.__setattr__"))∧plainOver C.K c=true∧takerIn C.K c name=some none∧hasDictIn C.K c=true∧Q ρ (σ1.upd dx (.sd (sput es name y)))) X) :
  Asg C A env (.Attribute o name pos) y ρ σ Q X:=by
 revert C A env ρ σ X o name pos y Q;k_extra "e11";intro C A env ρ σ X o name pos y Q h
 intro s v S F r
 rw[assign_Attribute]
 refine wpAny_bind (wpAny_holding (wpAny_mono (h s S F) ?_ fun _ _ z=>z))
 rintro ov s1 ⟨x,σ1,⟨a,c,dx,es,rfl,ha,hdx,hz,k1,k2,k3,k4,q⟩,r1,S1,e1⟩
 cases r1
 have I0:=S1.rep _ _ ha
 have hdx':=S1.rep _ _ hdx
 obtain⟨kvs,D,pr⟩:=hdx'
 have hl:kvs.length=es.length:=pr.length
 have hnd:(kvs.map (·.1)).Nodup:=by obtain⟨_,_,_,_,_,_,_,_,hn⟩:=D;exact hn
 refine wpAny_bind (wpAny_standAt (wpAny_bind (wpAny_holding (Z2y S1.K I0 D k1 k2 k3 k4 (by exact Y6l hz hl) fun h' D' sb=>?_))))
 refine PyProof.Rows.wpAny_release' ?_
 have tk:TupKeep s1.heap h':=Z6 sb (S1.rep _ _ hdx).notTup
 obtain⟨S2,e2⟩:=S1.set (t:=s1.toks+1+1) (o':=.sd (sput es name y)) hdx sb ⟨_,D',PR.stored ((r.mono e1.tup).mono tk) (pr.mono tk) hnd⟩
 exact⟨ρ,_,q,S2,(F.evo e1).evo e2,(e1.trans e2).evoF F.own⟩
theorem Ev.meth{o:Expr} {name:Str} {apos pos:Pos} {args:List Expr} {Q:pV} {pl:Sem Bool} (h:Ev C A env o ρ σ (fun x σ1=>∃a c dx es f,x=.ref a∧σ1 a=some (.inst c dx)∧σ1 dx=some (.sd es)∧sget es name=none∧plainGet C.K c name=true∧
   findIn C.K (.ref c) name=some (some (.ref f))∧isFn C.K (.ref f)=true∧keepIn C.K (.ref f)=true∧Ags C A env pos args ρ σ1 (fun xs σ2=>CallWP C A (.ref f) (.ref a::xs) σ2 Q X) X) X) (he:eval (.Call (.Attribute o name apos) args [] pos) env=(do
   let ov ←eval o env
   standAt apos.atName
   let (f,first) ←holding [ov] (getMethod ov name pl)
   callWith pos f first (backTo pos (starEach args env)) (backToKw pos (keywordEach [] env))):=by kernel_rfl) (hst:(backTo pos (starEach args env)).any (·.1)=false:=by kernel_rfl):Ev C A env (.Call (.Attribute o name apos) args [] pos) ρ σ Q X:=by
 revert C A env ρ σ X o name apos pos args Q pl;k_extra "e13";intro C A env ρ σ X o name apos pos args Q pl h he hst
 intro s S F
 refine methodCall_KW (wpAny_mono (h s S F) ?_ fun _ _ z=>z) he
 rintro ov s1 ⟨x,σ1,⟨a,c,dx,es,f,rfl,ha,hdx,hy,k1,k2,k3,k4,q⟩,r1,S1,e1⟩
 cases r1
 have I0:=S1.rep _ _ ha
 obtain⟨kvs,D,pr⟩:=S1.rep _ _ hdx
 obtain⟨des,n,hd,hp,hk,hn⟩:=Z1B D
 have hy':(es.find? fun p=>decide (p.1=name))=none:=by
  unfold sget at hy
  cases q:es.find? fun p=>decide (p.1=name) with
  | none=>rfl
  | some z=>rw[q]at hy;cases hy
 have I:InstAt s1.heap a (Z2q c dx) c (some (dictOf des n)):=⟨I0,rfl,rfl,hd⟩
 refine method_fn S1.K I (plainGet_of k1).1 (plainGet_of k1).2 k2 (beq_iff_eq.mp k3) ?_ ?_
 ·show(lookIn name (dictOf des n)).map _=_
  rw[lookIn_dict,Z3c hp hk]
  unfold valueAt
  rw[pr.find_none hy'];rfl
 ·exact wpAny_mono (Zi (first:=[.ref a]) (fx:=[.ref a]) (Kp.ref k4) S1 (F.evo e1) (.cons (.ref _) .nil) q hst) (fun _ _ z=>z.after e1) fun _ _ z=>z
end
structure Itr(C:Cx) (A:Around) (target:Expr) (it:Value) (ow:Addr->Prop) (J:Nat->Heap->Prop) (ok:Store->Prop) (xs:List V):Prop where
 frame:∀k h h',J k h->TupKeep h h'->(∀b o,ow b->h.get? b=some o->h'.get? b=some o)->J k h'
 notTup:∀k h b o,J k h->ow b->h.get? b=some o->¬Imm o
 notD:∀k h b o,J k h->ow b->h.get? b=some o->∀es n,o.data≠.dict es n
 there:∀k h b,J k h->ow b->∃o,h.get? b=some o
 more:∀k σ s x (Q:Option Value->Shared->Prop) (X:XP),St C σ s->ok σ->J k s.heap->xs[k]?=some x->(∀b,ow b->σ b=none)->
  (∀v h' tk,VR h' v x->(∀b o,¬ow b->s.heap.get? b=some o->h'.get? b=some o)->(∀b o,ow b->h'.get? b=some o->¬Imm o)->
   (∀(Q':Unit->Shared->Prop) (X':XP),(∀h'' tk',J (k+1) h''->(∀b o,¬ow b->h'.get? b=some o->h''.get? b=some o)->Q' () { s with heap:=h'',toks:=tk' })->
    wpAny C.M A (letOwnedTupleGo target it v) Q' X' { s with heap:=h',toks:=tk })->Q (some v) { s with heap:=h',toks:=tk })->wpAny C.M A (pyNext it) Q X s
 self:∀k (s:Shared) (Q:pS) (X:XP),J k s.heap->Q it s->wpAny C.M A (pyIter it) Q X s
 done:∀k σ s (Q:Option Value->Shared->Prop) (X:XP),St C σ s->ok σ->J k s.heap->xs[k]?=none->(∀b,ow b->σ b=none)->
  (∀h' tk,(∀b o,¬ow b->s.heap.get? b=some o->h'.get? b=some o)->Q none { s with heap:=h',toks:=tk })->wpAny C.M A (pyNext it) Q X s
section
variable {C:Cx} {A:Around} {env:Env} {ρ:Rho} {σ:Store} {X:XP} {s:Shared}
theorem Zt{h h':Heap} {ow:Addr->Prop} (k:∀b o,¬ow b->h.get? b=some o->h'.get? b=some o) (nt:∀b o,ow b->h.get? b=some o->¬Imm o):TupKeep h h':=
 fun a o i e=>k a _ (fun q=>nt a o q e i) e
theorem St.ow{h':Heap} {t:Nat} {ow:Addr->Prop} (S:St C σ s) (k:∀b o,¬ow b->s.heap.get? b=some o->h'.get? b=some o) (nt:∀b o,ow b->s.heap.get? b=some o->¬Imm o)
  (no:∀b,ow b->σ b=none) (nb:∀b,ow b->C.h₀.get? b=none):St C σ { s with heap:=h',toks:=t }:=
 ⟨fun b o e=>k b o (fun q=>by rw[nb b q]at e;cases e) (S.base b o e),fun a o e=>(S.rep a o e).at (fun x hx=>k a x (fun q=>by rw[no a q]at e;cases e) hx) (Zt k nt),S.above,S.gens,S.os⟩
theorem Fm.ow{h h':Heap} {ow:Addr->Prop} (F:Fm C σ h env ρ) (k:∀b o,¬ow b->h.get? b=some o->h'.get? b=some o) (nt:∀b o,ow b->h.get? b=some o->¬Imm o) (no:∀b,ow b->¬Own env b):Fm C σ h' env ρ:=by
 revert C env ρ σ h h' ow;k_extra "e7";intro C env ρ σ h h' ow F k nt no
 obtain⟨f1,⟨m,hm,f2⟩,f3,f5,f6,f7,f8⟩:=F
 have tk:=Zt k nt
 obtain⟨o,es,ep,ho,rest⟩:=hm
 refine⟨f1,⟨m,⟨o,es,ep,k _ _ (fun q=>no _ q (.inl rfl)) ho,rest⟩,fun x v hx hv=>?_⟩,f3,f5,fun x c hc=>?_,f7,f8⟩
 ·obtain⟨u,a,b⟩:=f2 x v hx hv
  exact⟨u,a,b.mono tk⟩
 ·obtain⟨ov,a,b⟩:=f6 x c hc
  refine⟨ov,Z3V a fun o e=>k _ _ (fun q=>no _ q (.inr ⟨x,hc⟩)) e,fun v hv=>?_⟩
  obtain⟨u,p,q⟩:=b v hv
  exact⟨u,p,q.mono tk⟩
theorem EvoF.ow{σ0:Store} {h0 h h':Heap} {ow:Addr->Prop} (e:EvoF env σ0 h0 σ h) (k:∀b o,¬ow b->h.get? b=some o->h'.get? b=some o) (fr:∀b,ow b->h0.get? b=none):EvoF env σ0 h0 σ h':=by
 refine⟨fun b o q n w=>(e.keep b o q n w).trans fun o' q'=>.inl (k b o' (fun z=>by rw[fr b z]at q;cases q) q'),e.dom,e.mono,fun a i n q=>k a _ (fun z=>by rw[fr a z]at q;cases q) (e.tup a i n q),fun b o q w=>?_⟩
 obtain⟨o',q'⟩:=e.there b o q w
 exact⟨o',k b o' (fun z=>by rw[fr b z]at q;cases q) q'⟩
theorem Z3Y{target:Expr} {it:Value} {body:List Stmt} {ow:Addr->Prop} {J:Nat->Heap->Prop} {ok:Store->Prop} {xs:List V} {σ0:Store} {h0:Heap} (W:Itr C A target it ow J ok xs) (I:Nat->Rho->Store->Prop) (Q:pW) (fr:∀b,ow b->h0.get? b=none) (fro:∀b,ow b->¬Own env b) (frb:∀b,ow b->C.h₀.get? b=none) (turn:∀k ρ σ,I k ρ σ->ok σ∧match xs[k]? with
   | none=>Q .next ρ σ
   | some x=>Asg C A env target x ρ σ (fun ρ1 σ1=>Exs C A env body ρ1 σ1 (fun g ρ2 σ2=>match g with
     | .next|.cont=>I (k+1) ρ2 σ2
     | .brk=>Q .next ρ2 σ2
     | .ret v=>Q (.ret v) ρ2 σ2) (fun _ _=>False)) (fun _ _=>False)) :
  ∀m k ρ σ s,xs.length-k=m->I k ρ σ->St C σ s->Fm C σ s.heap env ρ->EvoF env σ0 h0 σ s.heap->J k s.heap->(∀b,ow b->σ b=none)->
   codeAny C.M A (.forLoop target it body [] env) (fun r s'=>match r with|.ok f=>SP C env σ0 h0 Q f s'|.error _=>False) s:=by
 revert C A env target it body ow J ok xs σ0 h0 W I Q fr fro frb turn;k_extra "e12";intro C A env target it body ow J ok xs σ0 h0 W I Q fr fro frb turn
 intro m
 induction m using Nat.strongRecOn with
 | ind m ih=>
 intro k ρ σ s hm hI S F e0 hJ no
 obtain⟨hok,tn⟩:=turn k ρ σ hI
 refine codeAny_of_tree ?_
 show wpAny C.M _ ((forTurn target it body [] env).onRaise (fun x=>do noteFrame x env;theTreesLotGoes x)) _ _ s
 rw[show A.under (.forLoop target it body [] env)=A from Around.under_of_weight (by rfl)]
 refine wpAny_noted ?_
 unfold forTurn
 refine wpAny_bind (wpAny_standAt (wpAny_bind (wpAny_onRaise ?_)))
 have nt:∀b o,ow b->s.heap.get? b=some o->¬Imm o:=fun b o q=>W.notTup k _ b o hJ q
 cases hx:xs[k]? with
 | none=>
  rw[hx]at tn
  refine W.done k σ s _ _ S hok hJ hx no fun h' tk kp=>?_
  refine wpAny_pure ⟨rfl,codeAny_of_tree ?_⟩
  show wpAny C.M _ (do return Fin.done (←(execs [] env).onRaise (fun x=>do noteFrame x env;theTreesLotGoes x))) _ _ _
  refine wpAny_bind (wpAny_noted (wpAny_execs_nil (wpAny_pure ?_)))
  exact⟨.next,ρ,σ,tn,.next,S.ow kp nt no frb,F.ow kp nt fro,e0.ow kp fr⟩
 | some x=>
  rw[hx]at tn
  have hk:k<xs.length:=by
   have:=List.getElem?_eq_some_iff.mp hx
   exact this.1
  refine W.more k σ s x _ _ S hok hJ hx no fun v h' tk rv kp nt' go=>?_
  refine wpAny_bind (go _ _ fun h'' tk' J' kp'=>?_)
  have kp2:∀b o,¬ow b->s.heap.get? b=some o->h''.get? b=some o:=fun b o q e=>kp' b o q (kp b o q e)
  have S2:St C σ { s with heap:=h'',toks:=tk' }:=S.ow kp2 nt no frb
  have F2:Fm C σ h'' env ρ:=F.ow kp2 nt fro
  have rv2:VR h'' v x:=rv.mono (Zt kp' nt')
  refine wpAny_bind (wpAny_mono (tn { s with heap:=h'',toks:=tk' } v S2 F2 rv2) ?_ fun _ _ z=>z.elim)
  rintro _ s3 ⟨ρ1,σ1,q1,S3,F3,e3⟩
  refine wpAny_bind (wpAny_mono (q1 s3 S3 F3) ?_ fun _ _ z=>z.elim)
  rintro f s4 ⟨g,ρ2,σ2,q2,r2,S4,F4,e4⟩
  have e04:EvoF env σ0 h0 σ2 s4.heap:=((e0.ow kp2 fr).trans e3).trans e4
  have al2:∀b,ow b->∃o,h''.get? b=some o:=fun b q=>W.there _ _ b J' q
  have e24:EvoF env σ h'' σ2 s4.heap:=e3.trans e4
  have kpo:∀b o,ow b->h''.get? b=some o->s4.heap.get? b=some o:=fun b o q e=>(e24.keep b o e (no b q) (fro b q)).exact (W.notD _ _ b o J' q e)
  have no4:∀b,ow b->σ2 b=none:=fun b q=>by
   cases z:σ2 b with
   | none=>rfl
   | some o=>
    rcases e24.dom b o z with⟨o',e'⟩|e'
    ·rw[no b q]at e';cases e'
    ·obtain⟨o',e2⟩:=al2 b q
     rw[e2]at e';cases e'
  have again':I (k+1) ρ2 σ2->codeAny C.M A (.forLoop target it body [] env) (fun r s'=>match r with|.ok f=>SP C env σ0 h0 Q f s'|.error _=>False) s4:=fun hI'=>
   ih (xs.length-(k+1)) (by exact Y6q hm hk) (k+1) ρ2 σ2 s4 rfl hI' S4 F4 e04 (W.frame _ _ _ J' e24.tup kpo) no4
  cases r2 with
  | next=>exact wpAny_pure ⟨rfl,again' q2⟩
  | cont=>exact wpAny_pure ⟨rfl,again' q2⟩
  | brk=>exact wpAny_pure ⟨.next,ρ2,σ2,q2,.next,S4,F4,e04⟩
  | ret r=>exact wpAny_pure ⟨_,ρ2,σ2,q2,.ret r,S4,F4,e04⟩
noncomputable def ForL (C:Cx) (A:Around) (env:Env) (target:Expr) (body:List Stmt) (ok:Store->Prop) (Q:pW):List V->Rho->Store->Prop
 | [],ρ,σ=>Q .next ρ σ
 | x::xs,ρ,σ=>Asg C A env target x ρ σ (fun ρ1 σ1=>Exs C A env body ρ1 σ1 (fun g ρ2 σ2=>match g with
   | .next|.cont=>ok σ2∧ForL C A env target body ok Q xs ρ2 σ2
   | .brk=>Q .next ρ2 σ2
   | .ret v=>Q (.ret v) ρ2 σ2) (fun _ _=>False)) (fun _ _=>False)
theorem Z5n{target:Expr} {it:Value} {body:List Stmt} {ow:Addr->Prop} {J:Nat->Heap->Prop} {ok:Store->Prop} {xs:List V} (W:Itr C A target it ow J ok xs) {σ0:Store} {h0:Heap} {Q:pW}
  (fr:∀b,ow b->h0.get? b=none) (fro:∀b,ow b->¬Own env b) (frb:∀b,ow b->C.h₀.get? b=none) (no:∀b,ow b->σ b=none)
  (S:St C σ s) (F:Fm C σ s.heap env ρ) (e0:EvoF env σ0 h0 σ s.heap) (hJ:J 0 s.heap) (hok:ok σ) (h:ForL C A env target body ok Q xs ρ σ) :
  codeAny C.M A (.forLoop target it body [] env) (fun r s'=>match r with|.ok f=>SP C env σ0 h0 Q f s'|.error _=>False) s:=by
 refine Z3Y W (fun k ρ σ=>ok σ∧ForL C A env target body ok Q (xs.drop k) ρ σ) Q fr fro frb (fun k ρ σ hI=>⟨hI.1,?_⟩) _ 0 ρ σ s rfl ⟨hok,by simpa using h⟩ S F e0 hJ no
 cases hx:xs[k]? with
 | none=>
  have:xs.drop k=[]:=List.drop_eq_nil_of_le (List.getElem?_eq_none_iff.mp hx)
  have h2:=hI.2
  rw[this]at h2
  exact h2
 | some x=>
  obtain⟨hk,rfl⟩:=List.getElem?_eq_some_iff.mp hx
  have h2:=hI.2
  rw[List.drop_eq_getElem_cons hk]at h2
  exact h2
theorem Zr{target:Expr} {it:Addr} {v:Value} {o:Obj} {T:String} {Q:Unit->Shared->Prop} {E:XP} (e:s.heap.get? it=some o) (hc:o.cls=.type T)
  (hT:["enumerate","zip","dict_itemiterator","dict_reverseitemiterator","odict_iterator","itertools.zip_longest","itertools.pairwise"].contains T=false) (h:Q () s):wpAny C.M A (letOwnedTupleGo target (.ref it) v) Q E s:=by
 have key:∀(v:Value),wpAny C.M A (do
   let (.ref r,.ref a):=((Value.ref it,v):Value×Value)|return
   let o ←load r
   match o.cls,o.data with
   | .type n,.fields vs=>
    if ["enumerate","zip","dict_itemiterator","dict_reverseitemiterator","odict_iterator","itertools.zip_longest","itertools.pairwise"].contains n&&vs[0]?==some (rawInt a) then
     rule "for.unpacks-the-owned-tuple"
     updateField r 0 .none
   | _,_=>pure ()) Q E s:=fun v=>by
  cases v<;>try exact wpAny_pure h
  refine wpAny_bind (wpAny_load e ?_)
  rw[hc]
  cases o.data<;>try exact wpAny_pure h
  simp only[hT,Bool.false_and,Bool.false_eq_true,if_false]
  exact wpAny_pure h
 cases target<;>first|exact wpAny_pure h|exact key v
theorem Itr.list{target:Expr} {it l:Addr} {xs:List V} (hh:A.handled=none) (hne:it≠l) :
  Itr C A target (.ref it) (fun b=>b=it) (fun k h=>h.IsListIter it l k) (fun σ=>LstAt C σ l xs) xs where
 frame:=fun k h h' ⟨o,e,r⟩ _ kp=>⟨o,kp it o rfl e,r⟩
 notTup:=fun k h b o' ⟨o,e,c,_⟩ q z=>by subst q;rw[e]at z;cases z;exact Imm.not (by rw[c];simp) (by rw[c];simp) (by rw[c];simp)
 notD:=fun k h b o' ⟨o,e,c,d⟩ q z es n w=>by subst q;rw[e]at z;cases z;rw[d]at w;cases w
 there:=fun k h b ⟨o,e,_⟩ q=>by subst q;exact⟨o,e⟩
 more:=fun k σ s x Q X S hok hJ hx no hQ=>by
  obtain⟨items,hl,hr⟩:=hok.raw S
  obtain⟨u,hu,ru⟩:=hr.get hx
  refine wpAny_pyNext_list_item hJ hl (by simpa using hu) fun h' J' sb=>?_
  have kp:∀b o,¬b=it->s.heap.get? b=some o->h'.get? b=some o:=fun b o q e=>(sb.2 b q).trans e
  have tk:TupKeep s.heap h':=Zt (ow:=fun b=>b=it) kp fun b o' q=>by
   subst q
   obtain⟨o,e,c,_⟩:=hJ
   intro z;rw[e]at z;cases z;exact Imm.not (by rw[c];simp) (by rw[c];simp) (by rw[c];simp)
  refine hQ u h' s.toks (ru.mono tk) kp (fun b o' q z=>?_) (fun Q' X' hq=>by
   obtain⟨o,e,c,_⟩:=id J'
   exact Zr (s:={ s with heap:=h' }) e c (by decide) (hq h' s.toks J' fun _ _ _ e=>e))
  subst q
  obtain⟨o,e,c,_⟩:=J'
  rw[e]at z;cases z;exact Imm.not (by rw[c];simp) (by rw[c];simp) (by rw[c];simp)
 self:=fun k s Q X hJ hq=>wpAny_pyIter_listiter hJ hq
 done:=fun k σ s Q X S hok hJ hx no hQ=>by
  obtain⟨items,hl,hr⟩:=hok.raw S
  have hn:items[k]?=none:=by
   have h1:=List.getElem?_eq_none_iff.mp hx
   have h2:=hr.length
   simp only[Array.length_toList]at h2
   exact Array.getElem?_eq_none_iff.mpr (by exact Y5L h1 h2)
  exact wpAny_pyNext_list_end hh hJ hl hn fun h' kp=>hQ h' s.toks fun b o q e=>kp b o q e
end
section
variable {C:Cx} {A:Around} {env:Env} {ρ:Rho} {σ:Store} {X:XP} {s:Shared}
theorem Evo.ow{σ0:Store} {h0 h h':Heap} {ow:Addr->Prop} (e:Evo σ0 h0 σ h) (k:∀b o,¬ow b->h.get? b=some o->h'.get? b=some o) (fr:∀b,ow b->h0.get? b=none):Evo σ0 h0 σ h':=
 ⟨fun b o q n=>(e.keep b o q n).trans fun o' q'=>.inl (k b o' (fun z=>by rw[fr b z]at q;cases q) q'),e.dom,e.mono,fun a i n q=>k a _ (fun z=>by rw[fr a z]at q;cases q) (e.tup a i n q)⟩
theorem Z1K{h h':Heap} {a:Addr} {items:Array Value} (x:h.PlainList a items) (k:∀o,h.get? a=some o->Kept h' a o):h'.PlainList a items:=by
 obtain⟨n,e⟩:=x
 exact⟨n,(k _ e).exact fun es n z=>(by cases z)⟩
theorem Fm.less{h:Heap} {ρ':Rho} (F:Fm C σ h env ρ) (k:∀x v,ρ'.get x=some v->ρ.get x=some v):Fm C σ h env ρ':=by
 revert C env ρ σ h ρ';k_extra "e6";intro C env ρ σ h ρ' F k
 obtain⟨f1,⟨m,hm,f2⟩,f3,f5,f6,f7,f8⟩:=F
 refine⟨f1,⟨m,hm,fun x v hx hv=>f2 x v hx (k x v hv)⟩,f3,f5,fun x c hc=>?_,f7,f8⟩
 obtain⟨ov,a,b⟩:=f6 x c hc
 exact⟨ov,a,fun v hv=>b v (k x v hv)⟩
noncomputable def Ifs (C:Cx) (A:Around) (env:Env) (ifs:List Expr) (ρ:Rho) (σ:Store) (Q:Bool->Store->Prop) (X:XP):Prop:=
 match ifs with
 | []=>Q true σ
 | [c]=>Tst C A env c ρ σ Q X
 | _=>False
theorem Ifs.run{ifs:List Expr} {Q:Bool->Store->Prop} (h:Ifs C A env ifs ρ σ Q X) (S:St C σ s) (F:Fm C σ s.heap env ρ) :
  wpAny C.M A (forIn ifs true fun c r=>if r=true then do let ok ←isTrue c env (eval c env);pure (ForInStep.yield ok) else pure (ForInStep.yield r)) (TP C σ s.heap Q) X s:=by
 match ifs,h with
 | [],h=>exact wpAny_tests_nil (TP.pure S h)
 | [c],h=>exact wpAny_tests_one (h s S F)
noncomputable def CmpL (C:Cx) (A:Around) (env:Env) (x:Str) (ifs:List Expr) (elt:Expr) (ok:Store->Prop) (ρ:Rho) (R:List V->Store->Prop):List V->List V->Store->Prop
 | [],out,σ=>R out σ
 | y::ys,out,σ=>Ifs C A env ifs (ρ.put x y) σ (fun b σ1=>
   if b then Ev C A env elt (ρ.put x y) σ1 (fun z σ2=>out.length≤sizeLine∧ok σ2∧CmpL C A env x ifs elt ok ρ R ys (out++[z]) σ2) (fun _ _=>False)
   else ok σ1∧CmpL C A env x ifs elt ok ρ R ys out σ1) (fun _ _=>False)
theorem Z3A{x:Str} {px pos:Pos} {elt iter:Expr} {ifs:List Expr} {scope:Scope} {it:Value} {ow:Addr->Prop} {J:Nat->Heap->Prop} {ok:Store->Prop} {xs:List V} {acc:Addr} {σ0:Store} {h0:Heap} {R:List V->Store->Prop} {RR:Result->Shared->Prop} (W:Itr C A (.Name x px) it ow J ok xs) (hx:env.kindOf x=some .local) (hxc:env.cells.lookup x=none) (hxr:ρ.get x=none) (fr:∀b,ow b->h0.get? b=none) (fra:h0.get? acc=none) (frl:h0.get? env.locals=none) (frb:∀b,ow b->C.h₀.get? b=none) (frba:C.h₀.get? acc=none) (nac:¬ow acc) (nal:acc≠env.locals) (nol:¬ow env.locals) (noo:∀b,ow b->¬Own env b) (nao:¬Own env acc) (hR:∀out σ s items,R out σ->St C σ s->Evo σ0 h0 σ s.heap->s.heap.PlainList acc items->VRs s.heap items.toList out->σ acc=none->(∃m,s.heap.Ns env.locals m)->σ env.locals=none->RR (.ok .next) s) :
  ∀m k out σ s items,xs.length-k=m->ok σ->CmpL C A env x ifs elt ok ρ R (xs.drop k) out σ->St C σ s->Fm C σ s.heap env ρ->Evo σ0 h0 σ s.heap->J k s.heap->(∀b,ow b->σ b=none)->
   s.heap.PlainList acc items->VRs s.heap items.toList out->σ acc=none->
   codeAny C.M A (.compLoop (.ListComp elt [⟨.Name x px,iter,ifs,0⟩] scope pos) 0 it (.ref acc) env) RR s:=by
 revert C A env ρ x px pos elt iter ifs scope it ow J ok xs acc σ0 h0 R RR;k_extra "e15";intro C A env ρ x px pos elt iter ifs scope it ow J ok;k_extra "e6";intro xs acc σ0 h0 R RR W hx hxc hxr fr fra frl frb frba nac nal nol noo nao hR
 intro m
 induction m using Nat.strongRecOn with
 | ind m ih=>
 intro k out σ s items hm hok hL S F e0 hJ no pl rl na
 have nt:∀b o,ow b->s.heap.get? b=some o->¬Imm o:=fun b o q=>W.notTup k _ b o hJ q
 have dn:∀(σ':Store) (h h':Heap),Evo σ h σ' h'->∀b o,h.get? b=some o->σ b=none->σ' b=none:=fun σ' h h' e b o q n=>by
  cases z:σ' b with
  | none=>rfl
  | some o2=>
   rcases e.dom b o2 z with⟨o',e'⟩|e'
   ·rw[n]at e';cases e'
   ·rw[q]at e';cases e'
 refine codeAny_of_tree ?_
 show wpAny C.M _ ((compTurn (.ListComp elt [⟨.Name x px,iter,ifs,0⟩] scope pos) 0 it (.ref acc) env).onRaise (fun x=>do noteFrame x env;theTreesLotGoes x)) _ _ s
 rw[show A.under (.compLoop (.ListComp elt [⟨.Name x px,iter,ifs,0⟩] scope pos) 0 it (.ref acc) env)=A from Around.under_of_weight (by rfl)]
 refine wpAny_noted ?_
 rw[compTurn_list]
 refine wpAny_bind (wpAny_standAt (wpAny_bind ?_))
 cases hxk:xs[k]? with
 | none=>
  have hd:xs.drop k=[]:=List.drop_eq_nil_of_le (List.getElem?_eq_none_iff.mp hxk)
  rw[hd]at hL
  refine W.done k σ s _ _ S hok hJ hxk no fun h' tk kp=>?_
  refine wpAny_pure ?_
  have S':St C σ { s with heap:=h',toks:=tk }:=S.ow kp nt no frb
  obtain⟨m',hm',_⟩:=(F.ow kp nt noo).loc
  exact hR out σ _ items hL S' (e0.ow kp fr) (pl.at fun o e=>kp _ _ nac e) (rl.mono (Zt kp nt)) na ⟨m',hm'⟩ F.locs
 | some y=>
  obtain⟨hk,rfl⟩:=List.getElem?_eq_some_iff.mp hxk
  rw[List.drop_eq_getElem_cons hk]at hL
  refine W.more k σ s _ _ _ S hok hJ hxk no fun v h' tk rv kp nt' go=>?_
  refine wpAny_bind (go _ _ fun h'' tk' J' kp'=>?_)
  have kp2:∀b o,¬ow b->s.heap.get? b=some o->h''.get? b=some o:=fun b o q e=>kp' b o q (kp b o q e)
  have S2:St C σ { s with heap:=h'',toks:=tk' }:=S.ow kp2 nt no frb
  have F2:Fm C σ h'' env ρ:=F.ow kp2 nt noo
  have rv2:VR h'' v xs[k]:=rv.mono (Zt kp' nt')
  have e2:Evo σ0 h0 σ h'':=e0.ow kp2 fr
  have pl2:h''.PlainList acc items:=pl.at fun o e=>kp2 _ _ nac e
  have rl2:VRs h'' items.toList out:=rl.mono (Zt kp2 nt)
  obtain⟨m0,hm0,fm0⟩:=F2.loc
  refine wpAny_bind (wpAny_assign_Name (wpAny_storeName_local (s:={ s with heap:=h'',toks:=tk' }) hx hm0 (fun h3 hn3 hs3=>?_) (by rw[F2.fn];rfl)))
  obtain⟨S3,F3,e3⟩:=Fm.storeLocal (h:=h'') (t:=tk'+1) (s:={ s with heap:=h'',toks:=tk' }) S2 F2 hx hm0 fm0 hn3 hs3 rv2 hxc
  have e03:Evo σ0 h0 σ h3:=e2.ow (ow:=fun b=>b=env.locals) (fun b o q e=>(hs3.2 b q).trans e) (fun b q=>q▸frl)
  have J3:J (k+1) h3:=W.frame _ _ _ J' e3.tup fun b o q e=>(hs3.2 b fun z=>nol (z▸q)).trans e
  have pl3:h3.PlainList acc items:=pl2.at fun o e=>(hs3.2 _ nal).trans e
  have rl3:VRs h3 items.toList out:=rl2.mono e3.tup
  have nx:∀(s4:Shared) (σ4:Store) (out':List V) (items':Array Value),ok σ4->CmpL C A env x ifs elt ok ρ R (xs.drop (k+1)) out' σ4->St C σ4 s4->Fm C σ4 s4.heap env (ρ.put x xs[k])->Evo σ0 h0 σ4 s4.heap->J (k+1) s4.heap->
    (∀b,ow b->σ4 b=none)->s4.heap.PlainList acc items'->VRs s4.heap items'.toList out'->σ4 acc=none->
    codeAny C.M A (.compLoop (.ListComp elt [⟨.Name x px,iter,ifs,0⟩] scope pos) 0 it (.ref acc) env) RR s4:=fun s4 σ4 out' items' hok4 hL4 S4 F4 e4 J4 no4 pl4 rl4 na4=>
   ih (xs.length-(k+1)) (by exact Y6q hm hk) (k+1) out' σ4 s4 items' rfl hok4 hL4 S4 (F4.less fun z u hz=>by
    rw[Rho.get_put,if_neg (fun q=>by rw[q,hxr]at hz;cases hz)];exact hz) e4 J4 no4 pl4 rl4 na4
  refine wpAny_bind (wpAny_mono (Ifs.run hL S3 F3) ?_ fun _ _ z=>z.elim)
  rintro b s4 ⟨σ4,q4,S4,e4⟩
  have no4:∀b,ow b->σ4 b=none:=fun b q=>by
   obtain⟨o',eo⟩:=W.there _ _ b J3 q
   exact dn σ4 _ _ e4 b o' eo (no b q)
  have na4:σ4 acc=none:=by obtain⟨n,eo⟩:=pl3;exact dn σ4 _ _ e4 acc _ eo na
  have J4:J (k+1) s4.heap:=W.frame _ _ _ J3 e4.tup fun b o q e=>(e4.keep b o e (no b q)).exact (W.notD _ _ b o J3 q e)
  have pl4:s4.heap.PlainList acc items:=Z1K pl3 fun o e=>e4.keep _ _ e na
  have rl4:=rl3.mono e4.tup
  have F4:=F3.evo e4
  cases b with
  | false=>
   simp only[Bool.false_eq_true,if_false]at q4 ⊢
   exact wpAny_pure ⟨rfl,nx s4 σ4 out items q4.1 q4.2 S4 F4 (e03.trans e4) J4 no4 pl4 rl4 na4⟩
  | true=>
   simp only[if_true]at q4 ⊢
   refine wpAny_bind (wpAny_bind (wpAny_mono (q4 s4 S4 F4) ?_ fun _ _ z=>z.elim))
   rintro u s5 ⟨z,σ5,⟨hz,hok5,q5⟩,r5,S5,e5⟩
   have dn5:∀b o,s4.heap.get? b=some o->σ4 b=none->σ5 b=none:=fun b o q n=>by
    cases z:σ5 b with
    | none=>rfl
    | some o2=>
     rcases e5.dom b o2 z with⟨o',e'⟩|e'
     ·rw[n]at e';cases e'
     ·rw[q]at e';cases e'
   have no5:∀b,ow b->σ5 b=none:=fun b q=>by
    obtain⟨o',eo⟩:=W.there _ _ b J4 q
    exact dn5 b o' eo (no4 b q)
   have na5:σ5 acc=none:=by obtain⟨n,eo⟩:=pl4;exact dn5 acc _ eo na4
   have J5:J (k+1) s5.heap:=W.frame _ _ _ J4 e5.tup fun b o q e=>(e5.keep b o e (no4 b q)).exact (W.notD _ _ b o J4 q e)
   have pl5:s5.heap.PlainList acc items:=Z1K pl4 fun o e=>e5.keep _ _ e na4
   have rl5:=rl4.mono e5.tup
   have F5:=F4.evo e5
   refine wpAny_bind (wpAny_list_append_plain pl5 (fun h6 pl6 sb6=>?_) (by have:=rl5.length;simp only[Array.length_toList]at this;exact Y5L hz this))
   have nt6:∀b o,b=acc->s5.heap.get? b=some o->¬Imm o:=fun b o q=>by
    subst q
    obtain⟨n,eo⟩:=pl5
    intro z;rw[eo]at z;cases z;exact Imm.not (by simp) (by simp) (by simp)
   have kp6:∀b o,¬b=acc->s5.heap.get? b=some o->h6.get? b=some o:=fun b o q e=>(sb6.2 b q).trans e
   have S6:St C σ5 { s5 with heap:=h6,toks:=s5.toks }:=S5.ow (ow:=fun b=>b=acc) kp6 nt6 (fun b q=>q▸na5) (fun b q=>q▸frba)
   have F6:Fm C σ5 h6 env (ρ.put x xs[k]):=F5.ow (ow:=fun b=>b=acc) kp6 nt6 (fun b q=>q▸nao)
   have tk6:TupKeep s5.heap h6:=Zt (ow:=fun b=>b=acc) kp6 nt6
   refine wpAny_pure (wpAny_pure ⟨rfl,nx _ σ5 (out++[z]) (items.push u) hok5 q5 S6 F6 (((e03.trans e4).trans e5).ow (ow:=fun b=>b=acc) kp6 (fun b q=>q▸fra)) ?_ no5 pl6 ?_ na5⟩)
   ·exact W.frame _ _ _ J5 tk6 fun b o q e=>kp6 b o (fun z=>nac (z▸q)) e
   ·simp only[Array.toList_push]
    exact(rl5.mono tk6).append (.cons (r5.mono tk6) .nil)
end
section
variable {C:Cx} {A:Around} {env:Env} {ρ:Rho} {σ:Store} {X:XP} {s:Shared}
noncomputable def SrcP (C:Cx) (A:Around) (target:Expr) (σ:Store) (h:Heap) (Q:List V->(Store->Prop)->Store->Prop) (it:Value) (s2:Shared):Prop:=
 ∃xs ok σ' ow J,Q xs ok σ'∧Itr C A target it ow J ok xs∧ok σ'∧St C σ' s2∧Evo σ h σ' s2.heap∧(∀b,ow b->h.get? b=none∧σ' b=none)∧J 0 s2.heap
noncomputable def Src (C:Cx) (A:Around) (env:Env) (target iter:Expr) (ρ:Rho) (σ:Store) (Q:List V->(Store->Prop)->Store->Prop) (X:XP):Prop:=
 ∀s,St C σ s->Fm C σ s.heap env ρ->wpAny C.M A (eval iter env) (fun x s1=>wpAny C.M A (pyIter x) (SrcP C A target σ s.heap Q) X s1) X s
theorem Fm.own_there{h:Heap} (F:Fm C σ h env ρ) {b:Addr} (w:Own env b):∃o,h.get? b=some o:=by
 rcases w with rfl|⟨x,e⟩
 ·obtain⟨m,⟨o,_,_,ho,_⟩,_⟩:=F.loc
  exact⟨o,ho⟩
 ·obtain⟨ov,⟨o,ho,_⟩,_⟩:=F.cell x b e
  exact⟨o,ho⟩
theorem Ex.for{target iter:Expr} {body:List Stmt} {pos:Pos} {Q:pW} (h:Src C A env target iter ρ σ (fun xs ok σ1=>ForL C A env target body ok Q xs ρ σ1) X) (hs:∀x,foldedSetIterable iter env x=pure x:=by intro _;kernel_rfl):Ex C A env (.For target iter body [] pos) ρ σ Q X:=by
 revert C A env ρ σ X target iter body pos Q;k_extra "e11";intro C A env ρ σ X target iter body pos Q h hs
 intro s S F
 refine wpAny_For (wpAny_mono (h s S F) (fun x s1 h1=>wpAny_mono h1 ?_ fun _ _ z=>z) fun _ _ z=>z) hs
 rintro it s2 ⟨xs,ok,σ',ow,J,q,W,hok,S2,e2,fr,hJ⟩
 refine codeAny_mono (Z5n (σ0:=σ) (h0:=s.heap) W (fun b w=>(fr b w).1) (fun b w z=>?_) (fun b w=>?_) (fun b w=>(fr b w).2) S2 (F.evo e2) (e2.evoF F.own) hJ hok q) ?_
 ·obtain⟨o,e⟩:=F.own_there z
  rw[(fr b w).1]at e;cases e
 ·cases z:C.h₀.get? b with
  | none=>rfl
  | some o=>have:=S.base _ _ z;rw[(fr b w).1]at this;cases this
 ·rintro(e|f) s' z
  ·exact z.elim
  ·exact z
noncomputable def ItV (C:Cx) (A:Around) (target:Expr) (x:V) (σ:Store) (xs:List V) (ok:Store->Prop):Prop:=
 ok σ∧∀s v (Q:pS) (X:XP),St C σ s->VR s.heap v x->(∀it ow J h' tk,Itr C A target it ow J ok xs->(∀b o,s.heap.get? b=some o->h'.get? b=some o)->(∀b,ow b->s.heap.objs.size≤b)->J 0 h'->
  Q it { s with heap:=h',toks:=tk })->wpAny C.M A (pyIter v) Q X s
theorem St.fresh'(S:St C σ s) {b:Addr} (hb:s.heap.objs.size≤b):σ b=none:=by
 cases q:σ b with
 | none=>rfl
 | some o=>
  obtain⟨y,hy,_⟩:=(S.rep _ _ q).isSome
  exact absurd (Heap.lt_size hy) (Nat.not_lt.mpr hb)
theorem get?_fresh' {h:Heap} {b:Addr} (hb:h.objs.size≤b):h.get? b=none:=by
 cases q:h.get? b with
 | none=>rfl
 | some o=>exact absurd (Heap.lt_size q) (Nat.not_lt.mpr hb)
theorem Evo.fresh{σ':Store} {h h':Heap} {b:Addr} (S:St C σ' s) (e:Evo σ h σ' s.heap) (hb:s.heap.objs.size≤b):h.get? b=none:=by
 cases q:h.get? b with
 | none=>rfl
 | some o=>
  have f:=get?_fresh' hb
  cases z:σ b with
  | none=>
   obtain⟨o',z'⟩:=(e.keep _ _ q z).got
   rw[z']at f;cases f
  | some o'=>
   obtain⟨o'',e''⟩:=e.mono _ _ z
   rw[S.fresh' hb]at e'';cases e''
theorem Src.of{target iter:Expr} {Q:List V->(Store->Prop)->Store->Prop} (h:Ev C A env iter ρ σ (fun x σ1=>∃xs ok,ItV C A target x σ1 xs ok∧Q xs ok σ1) X):Src C A env target iter ρ σ Q X:=by
 revert C A env ρ σ X target iter Q;k_extra "e9";intro C A env ρ σ X target iter Q h
 intro s S F
 refine wpAny_mono (h s S F) ?_ fun _ _ z=>z
 rintro v s1 ⟨x,σ1,⟨xs,ok,⟨hok,hi⟩,q⟩,r1,S1,e1⟩
 refine hi s1 v _ _ S1 r1 fun it ow J h' tk W kp fr hJ=>?_
 exact⟨xs,ok,σ1,ow,J,q,W,hok,S1.ext kp,e1.trans (.ext kp),fun b w=>⟨Evo.fresh (h':=s1.heap) S1 e1 (fr b w),S1.fresh' (fr b w)⟩,hJ⟩
theorem ItV.list{target:Expr} {l:Addr} {xs:List V} (hh:A.handled=none) (hl:LstAt C σ l xs):ItV C A target (.ref l) σ xs (fun σ=>LstAt C σ l xs):=by
 refine⟨hl,fun s v Q X S r hQ=>?_⟩
 cases r
 obtain⟨items,pl,hr⟩:=hl.raw S
 refine wpAny_pyIter_list pl ?_
 have hlt:l<s.heap.objs.size:=by obtain⟨o,e,_⟩:=pl;exact Heap.lt_size e
 exact hQ _ _ _ _ s.toks (Itr.list hh (Nat.ne_of_gt hlt)) (fun b o e=>Heap.get?_push_of_some _ e) (fun b w=>w▸Nat.le_refl _) ⟨_,Heap.get?_push_size _ rfl,rfl,rfl⟩
theorem Itr.tup{target:Expr} {it t:Addr} {items:Array Value} {xs:List V} {n:Nat} (hh:A.handled=none) (hne:it≠t) :
  Itr C A target (.ref it) (fun b=>b=it) (fun k h=>h.IsTupleIter it t k∧h.get? t=some (Zk items n)∧VRs h items.toList xs) (fun _=>True) xs where
 frame:=fun k h h' ⟨⟨o,e,r⟩,a,b⟩ tk kp=>⟨⟨o,kp it o rfl e,r⟩,tk _ _ (.tup _ _) a,b.mono tk⟩
 notTup:=fun k h b o' ⟨⟨o,e,c,_⟩,_⟩ q z=>by subst q;rw[e]at z;cases z;exact Imm.not (by rw[c];simp) (by rw[c];simp) (by rw[c];simp)
 notD:=fun k h b o' ⟨⟨o,e,c,d⟩,_⟩ q z es n w=>by subst q;rw[e]at z;cases z;rw[d]at w;cases w
 there:=fun k h b ⟨⟨o,e,_⟩,_⟩ q=>by subst q;exact⟨o,e⟩
 more:=fun k σ s x Q X S hok ⟨hJ,ha,hr⟩ hx no hQ=>by
  obtain⟨u,hu,ru⟩:=hr.get hx
  have it':s.heap.IsTuple t items:=⟨_,ha,rfl,n,rfl⟩
  refine wpAny_pyNext_tuple_item hJ it' (by simpa using hu) fun h' J' sb=>?_
  have kp:∀b o,¬b=it->s.heap.get? b=some o->h'.get? b=some o:=fun b o q e=>(sb.2 b q).trans e
  have tk:TupKeep s.heap h':=Zt (ow:=fun b=>b=it) kp fun b o' q=>by
   subst q
   obtain⟨o,e,c,_⟩:=hJ
   intro z;rw[e]at z;cases z;exact Imm.not (by rw[c];simp) (by rw[c];simp) (by rw[c];simp)
  refine hQ u h' s.toks (ru.mono tk) kp (fun b o' q z=>?_) (fun Q' X' hq=>by
   obtain⟨o,e,c,_⟩:=id J'
   exact Zr (s:={ s with heap:=h' }) e c (by decide) (hq h' s.toks ⟨J',tk _ _ (.tup _ _) ha,hr.mono tk⟩ fun _ _ _ e=>e))
  subst q
  obtain⟨o,e,c,_⟩:=J'
  rw[e]at z;cases z;exact Imm.not (by rw[c];simp) (by rw[c];simp) (by rw[c];simp)
 self:=fun k s Q X hJ hq=>wpAny_pyIter_tupleiter hJ.1 hq
 done:=fun k σ s Q X S hok ⟨hJ,ha,hr⟩ hx no hQ=>by
  have hn:items[k]?=none:=by
   have h1:=List.getElem?_eq_none_iff.mp hx
   have h2:=hr.length
   simp only[Array.length_toList]at h2
   exact Array.getElem?_eq_none_iff.mpr (by exact Y5L h1 h2)
  exact wpAny_pyNext_tuple_end hh hJ ⟨_,ha,rfl,n,rfl⟩ hn fun h' kp=>hQ h' s.toks fun b o q e=>kp b o q e
theorem ItV.tup{target:Expr} {xs:List V} (hh:A.handled=none):ItV C A target (.tup xs) σ xs (fun _=>True):=by
 refine⟨trivial,fun s v Q X S r hQ=>?_⟩
 cases r with
 | @tup a items n _ ha hr=>
  refine wpAny_pyIter_tuple (items:=items) ⟨_,ha,rfl,n,rfl⟩ ?_
  have hlt:a<s.heap.objs.size:=Heap.lt_size ha
  exact hQ _ _ _ _ s.toks (Itr.tup (t:=a) (items:=items) (n:=n) hh (Nat.ne_of_gt hlt)) (fun b o e=>Heap.get?_push_of_some _ e) (fun b w=>w▸Nat.le_refl _) ⟨⟨_,Heap.get?_push_size _ rfl,rfl,rfl⟩,Heap.get?_push_of_some _ ha,hr.push⟩
noncomputable def Zs (a b:Int):List V:=(List.range (b-a).toNat).map fun(i:Nat)=>V.int (a+(i:Int))
theorem Itr.rng{target:Expr} {it:Addr} {a b:Int} (hh:A.handled=none) :
  Itr C A target (.ref it) (fun b=>b=it) (fun k h=>IsRangeIter h it (a+k) (((b-a).toNat:Int)-k) 1) (fun _=>True) (Zs a b) where
 frame:=fun k h h' e _ kp=>kp it _ rfl e
 notTup:=fun k h b o' e q z=>by subst q;rw[e]at z;cases z;exact Imm.not (by simp) (by simp) (by simp)
 notD:=fun k h b o' e q z es n w=>by subst q;rw[e]at z;cases z;cases w
 there:=fun k h b e q=>by subst q;exact⟨_,e⟩
 more:=fun k σ s x Q X S hok hJ hx no hQ=>by
  obtain⟨hk,rfl⟩:=List.getElem?_eq_some_iff.mp hx
  have hk':k<(b - a).toNat:=by simpa [Zs] using hk
  refine wpAny_pyNext_range_item hJ (by exact Y6f hk') fun h' J' sb=>?_
  refine hQ _ h' (s.toks+1) ?_ (fun b o q e=>(sb.2 b q).trans e) (fun b o' q z=>?_) (fun Q' X' hq=>by
   exact Zr (s:={ s with heap:=h',toks:=s.toks+1 }) J' rfl (by decide) (hq h' (s.toks+1) (by
    have e1:a+(k:Int)+1=a+((k+1:Nat):Int):=by exact Y6g
    have e2:((b-a).toNat:Int)-k-1=((b-a).toNat:Int)-((k+1:Nat):Int):=by exact Y6h
    rw[e1,e2]at J';exact J') fun _ _ _ e=>e))
  ·simp only[Zs,List.getElem_map,List.getElem_range];exact .int _ _
  ·subst q;rw[J']at z;cases z;exact Imm.not (by simp) (by simp) (by simp)
 self:=fun k s Q X hJ hq=>wpAny_pyIter_rangeiter hJ hq
 done:=fun k σ s Q X S hok hJ hx no hQ=>by
  have h1:=List.getElem?_eq_none_iff.mp hx
  simp only[Zs,List.length_map,List.length_range]at h1
  exact wpAny_pyNext_range_end hh hJ (by exact Y6i h1) fun h' kp=>hQ h' s.toks fun b o q e=>kp b o q e
theorem ItV.rng{target:Expr} {a b:Int} (hh:A.handled=none) (ha:-(2 ^ 62)≤a) (ha':a<2 ^ 62) (hb:-(2 ^ 62)≤b) (hb':b<2 ^ 62):ItV C A target (.rng a b) σ (Zs a b) (fun _=>True):=by
 refine⟨trivial,fun s v Q X S r hQ=>?_⟩
 cases r with
 | rng hr=>
  refine wpAny_pyIter_range hr (small_one ha ha' hb hb') ?_
  refine hQ _ _ _ _ s.toks (Itr.rng (a:=a) (b:=b) hh) (fun b o e=>Heap.get?_push_of_some _ e) (fun b w=>w▸Nat.le_refl _) ?_
  have e2:Builtin.Range.rangeSize a b 1=((b-a).toNat:Int):=by rw[rangeSize_one];split<;>(first|lia|omega)
  rw[e2]
  simpa using Heap.get?_push_size s.heap (o:={ cls:=.type "range_iterator",data:=.fields #[rawInt a,rawInt ((b - a).toNat:Int),rawInt 1] }) rfl
end
noncomputable def clOf (cells:List (Str×Addr)):List (Str×NameKind)->List (Str×Addr)->List (Str×Addr)
 | [],acc=>acc
 | (n,k)::r,acc=>if k==.free then clOf cells r ((n,(cells.lookup n).getD 0)::acc) else clOf cells r acc
theorem Z13{env:Env}:∀(names:List (Str×NameKind)) (acc:List (Str×Addr)),(names.all fun p=>p.2 != .free||(env.cells.lookup p.1).isSome)=true->
  (forIn names acc fun(x:Str×NameKind) (r:List (Str×Addr))=>(if x.2==NameKind.free then(do let c ←cellOf env x.1;pure (ForInStep.yield ((x.1,c)::r))) else pure (ForInStep.yield r):Sem (ForInStep (List (Str×Addr)))))=pure (clOf env.cells names acc)
 | [],acc,_=>rfl
 | (n,k)::r,acc,h=>by
  simp only[List.all_cons,Bool.and_eq_true]at h
  rw[List.forIn_cons]
  unfold clOf
  by_cases q:(k==.free)=true
  ·have hk:k=.free:=by cases k<;>first|rfl|cases q
   subst hk
   have h1:(env.cells.lookup n).isSome=true:=by simpa using h.1
   obtain⟨c,hc⟩:=Option.isSome_iff_exists.mp h1
   have e:cellOf env n=pure c:=by unfold cellOf;rw[hc]
   simp only[q,if_true,e,pure_bind,hc,Option.getD_some]
   exact Z13 r _ h.2
  ·simp only[q,if_false,pure_bind]
   exact Z13 r _ h.2
theorem ZO{env:Env} {scope:Scope} (h:(scope.names.all fun p=>p.2 != .free||(env.cells.lookup p.1).isSome)=true):closureFor scope env=pure (clOf env.cells scope.names []):=by
 unfold closureFor
 have:=Z13 (env:=env) scope.names [] h
 simp only[bind_pure]
 exact this
set_option tactic.hygienic true in
theorem Z14{cells:List (Str×Addr)}:∀{names:List (Str×NameKind)} {acc:List (Str×Addr)} {x:Str} {c:Addr},(x,c)∈clOf cells names acc->(x,c)∈acc∨((x,NameKind.free)∈names∧c=(cells.lookup x).getD 0)
 | [],_,_,_,h=>.inl h
 | (n,k)::r,acc,x,c,h=>by
  unfold clOf at h
  split at h
  ·rename_i q
   have hk:k=.free:=by cases k<;>first|rfl|cases q
   subst hk
   rcases Z14 h with z|⟨z,e⟩
   ·rcases List.mem_cons.mp z with z|z
    ·cases z;exact .inr ⟨.head _,rfl⟩
    ·exact .inl z
   ·exact .inr ⟨.tail _ z,e⟩
  ·rcases Z14 h with z|⟨z,e⟩
   ·exact .inl z
   ·exact .inr ⟨.tail _ z,e⟩
inductive Capt(ρ:Rho):List (Str×NameKind)->Rho->Prop
 | nil:Capt ρ [] []
 | skip {n:Str} {k:NameKind} {r:List (Str×NameKind)} {ρc:Rho}:k≠.free->Capt ρ r ρc->Capt ρ ((n,k)::r) ρc
 | take {n:Str} {v:V} {r:List (Str×NameKind)} {ρc:Rho}:ρ.get n=some v->Capt ρ r ρc->Capt ρ ((n,.free)::r) ((n,v)::ρc)
theorem Capt.get{ρ:Rho} {x:Str} {v:V} {names:List (Str×NameKind)} {ρc:Rho} (z:Capt ρ names ρc):ρc.get x=some v->ρ.get x=some v∧(x,NameKind.free)∈names:=by
 revert ρ x v names ρc;k_extra "e5";intro ρ x v names ρc z
 induction z with
 | nil=>intro h;cases h
 | skip _ _ ih=>exact fun h=>⟨(ih h).1,.tail _ (ih h).2⟩
 | @take n u _ ρc e c ih=>
  intro h
  have h':(if x=n then some u else Rho.get ρc x)=some v:=h
  by_cases q:x=n
  ·subst q;rw[if_pos rfl]at h';cases h';exact⟨e,.head _⟩
  ·rw[if_neg q]at h'
   exact⟨(ih h').1,.tail _ (ih h').2⟩
noncomputable def Z1d (scope:Scope):Bool:=scope.names.all fun p=>p.2 != .cell&&(p.2 != .free||scope.names.lookup p.1==some .free)&&(p.2 != .local||scope.names.lookup p.1==some .local)
theorem ZP{g:Str->NameKind->NameKind} {x:Str}:∀(names:List (Str×NameKind)),(names.map fun(n,k)=>(n,g n k)).lookup x=(names.lookup x).map (g x)
 | []=>rfl
 | (n,k)::r=>by
  simp only[List.map_cons,List.lookup_cons]
  cases q:x==n with
  | true=>rw[beq_iff_eq.mp q];rfl
  | false=>exact ZP r
theorem Z23{scope:Scope} {env:Env} {x:Str}:(relabel scope env).names.lookup x=(scope.names.lookup x).map fun k=>if (k==.free&&env.scope.kind==.function&&env.kindOf x==some .cell) then .cell else k:=by
 revert scope env x;k_extra "e3";intro scope env x
 have e:(relabel scope env).names=scope.names.map fun(n,k)=>(n,(fun(n:Str) (k:NameKind)=>if (k==.free&&env.scope.kind==.function&&env.kindOf n==some .cell) then NameKind.cell else k) n k):=by
  unfold relabel
  refine List.map_congr_left fun p _=>?_
  obtain⟨n,k⟩:=p
  dsimp only
  split<;>rfl
 rw[e]
 exact ZP (g:=fun n k=>if (k==.free&&env.scope.kind==.function&&env.kindOf n==some .cell) then NameKind.cell else k) scope.names
section
variable {C:Cx} {A:Around} {env:Env} {ρ:Rho} {σ:Store} {X:XP} {s:Shared}
theorem St.adopt{a:Addr} {o:O} {σ0:Store} {h0:Heap} (S:St C σ s) (r:Rep C s.heap a o) (hn:C.n₀≤a) (e:Evo σ0 h0 σ s.heap) (hf:h0.get? a=none):St C (σ.upd a o) s∧Evo σ0 h0 (σ.upd a o) s.heap:=by
 refine⟨⟨S.base,fun b x hx=>?_,fun b x hx=>?_,S.gens,S.os⟩,e.keep,fun b x hx=>?_,fun b x hx=>?_,e.tup⟩
 ·by_cases q:b=a
  ·subst q;rw[Store.upd_self]at hx;cases hx;exact r
  ·rw[Store.upd_ne _ _ q]at hx;exact S.rep b x hx
 ·by_cases q:b=a
  ·subst q;exact⟨S.baseFresh hn,.inl hn⟩
  ·rw[Store.upd_ne _ _ q]at hx;exact S.above b x hx
 ·by_cases q:b=a
  ·subst q;exact .inr hf
  ·rw[Store.upd_ne _ _ q]at hx;exact e.dom b x hx
 ·obtain⟨o',h'⟩:=e.mono b x hx
  by_cases q:b=a
  ·subst q;exact⟨_,Store.upd_self ..⟩
  ·exact⟨o',by rw[Store.upd_ne _ _ q];exact h'⟩
theorem Z2z{x:Str} {px pos:Pos} {elt iter:Expr} {ifs:List Expr} {scope:Scope} {ρc:Rho} {use:Option (Value->Sem Unit)} {Qr:pS} {R:List V->Store->Prop} (hfree:(scope.names.all fun p=>p.2 != .free||(env.cells.lookup p.1).isSome)=true) (hck:Z1d scope=true) (hk:scope.kind=.function) (hx:scope.names.lookup x=some .local) (cap:Capt ρ scope.names ρc) (hs:∀x,foldedSetIterable iter env x=pure x) (S:St C σ s) (F:Fm C σ s.heap env ρ) (h:Src C A env (.Name x px) iter ρ σ (fun xs ok σ1=>∀L,CmpL C A (compEnvC scope (clOf env.cells scope.names []) L env) x ifs elt ok ρc R xs [] σ1) X) (fin:∀acc L σ2 s2 out items,R out σ2->St C σ2 s2->Evo σ s.heap σ2 s2.heap->s2.heap.PlainList acc items->VRs s2.heap items.toList out->σ2 acc=none->(∃m,s2.heap.Ns L m)->σ2 L=none->C.n₀≤acc->C.n₀≤L->acc≠L->s.heap.get? acc=none->s.heap.get? L=none->
   compPost C.M A X use Qr (.ref acc) L (.ok .next) s2) :
  wpAny C.M A (comprehension (.ListComp elt [⟨.Name x px,iter,ifs,0⟩] scope pos) scope env (firstIterPos [⟨.Name x px,iter,ifs,0⟩] pos) (newList []) false (eval iter env) use) Qr X s:=by
 revert C A env ρ σ X s x px pos elt iter ifs scope ρc use Qr R;k_extra "e15";intro C A env ρ σ X s x px pos elt iter ifs scope ρc;k_extra "e3";intro use Qr R hfree hck hk hx cap hs S F h fin
 have names_of:∀p∈scope.names,p.2≠.cell∧(p.2=.free->scope.names.lookup p.1=some .free)∧(p.2=.local->scope.names.lookup p.1=some .local):=fun p hp=>by
  have:=List.all_eq_true.mp hck p hp
  simp only[Bool.and_eq_true,bne_iff_ne,ne_eq,Bool.or_eq_true,beq_iff_eq]at this
  refine⟨this.1.1,fun e=>?_,fun e=>?_⟩
  ·rcases this.1.2 with z|z
   ·exact absurd e z
   ·exact z
  ·rcases this.2 with z|z
   ·exact absurd e z
   ·exact z
 refine wpAny_comprehension_free (cl:=clOf env.cells scope.names []) rfl hs (ZO hfree) hk (fun p hp e=>(names_of p hp).2.2 e) ?_
 refine wpAny_mono (h s S F) (fun v s1 h1=>wpAny_mono h1 ?_ fun _ _ z=>z) fun _ _ z=>z
 rintro it s2 ⟨xs,ok,σ',ow,J,q,W,hok,S2,e2,fr,hJ⟩
 refine wpAny_newObj_type (wpAny_newFunctionEnv (fun p hp=>(names_of p hp).1) (by intro y hy;simp at hy) (fun h₁ hns₁ hsb₁=>?_) hk)
 dsimp only at hns₁ hsb₁ ⊢
 generalize hH2:s2.heap.push { cls:=.type "list",dict:=none,data:=.seq ([]:List Value).toArray }=H2 at hns₁ hsb₁ ⊢
 have hC:H2.objs.size=s2.heap.objs.size+1:=by rw[←hH2,Z2b]
 have hDC:s2.heap.objs.size≠H2.objs.size:=by rw[hC];exact Nat.ne_of_lt (Nat.lt_succ_self _)
 have old:∀b o,s2.heap.get? b=some o->h₁.get? b=some o:=fun b o e=>
  hsb₁.extBut b o (by rw[hC];exact Nat.ne_of_lt (Nat.lt_succ_of_lt (Heap.lt_size e))) (Heap.get?_push_of_some _ (hH2▸Heap.get?_push_of_some _ e))
 have hacc:h₁.PlainList s2.heap.objs.size #[]:=⟨_,hsb₁.extBut _ _ hDC (Heap.get?_push_of_some _ (hH2▸Heap.get?_push_size _ rfl))⟩
 have F2:=F.evo e2
 have e12:Evo σ' s2.heap σ' h₁:=.ext old
 have fresh2:∀b,s2.heap.objs.size≤b->s.heap.get? b=none:=fun b hb=>Evo.fresh (h':=s2.heap) S2 e2 hb
 have hLle:s2.heap.objs.size≤H2.objs.size:=by rw[hC];exact Nat.le_succ _
 have cl_of:∀y c,(clOf env.cells scope.names []).lookup y=some c->env.cells.lookup y=some c∧scope.names.lookup y=some .free:=fun y c hy=>by
  rcases Z14 (mem_of_lookup hy) with z|⟨z,e⟩
  ·cases z
  ·have h1:=List.all_eq_true.mp hfree _ z
   have h2:(env.cells.lookup y).isSome=true:=by simpa using h1
   obtain⟨c',hc'⟩:=Option.isSome_iff_exists.mp h2
   rw[hc']at e
   exact⟨by rw[hc',e];rfl,(names_of _ z).2.1 rfl⟩
 have S3:St C σ' { s2 with heap:=h₁,toks:=s2.toks }:=S2.ext old
 have F3:Fm C σ' h₁ (compEnvC scope (clOf env.cells scope.names []) H2.objs.size env) ρc:=by
  refine⟨by show(relabel scope env).kind=_;exact hk,⟨_,hns₁,fun y v hy hv=>?_⟩,S2.fresh' hLle,Nat.le_trans S2.size hLle,fun y c hy=>?_,fun y c hy=>?_,fun y z c hy hz=>?_⟩
  ·exfalso
   obtain⟨_,m⟩:=cap.get hv
   have h1:=(names_of _ m).2.1 rfl
   have h2:(relabel scope env).names.lookup y=some .local:=hy
   rw[Z23,h1]at h2
   simp only[Option.map_some,Option.some.injEq]at h2
   split at h2<;>cases h2
  ·obtain⟨h1,_⟩:=cl_of y c hy
   obtain⟨ov,a,b⟩:=(F2.evo e12).cell y c h1
   exact⟨ov,a,fun v hv=>b v (cap.get hv).1⟩
  ·obtain⟨h1,_⟩:=cl_of y c hy
   obtain⟨n1,n2,n3⟩:=F2.ncell y c h1
   refine⟨n1,?_,n3⟩
   obtain⟨ov,a,b⟩:=F2.cell y c h1
   exact Nat.ne_of_lt (Nat.lt_of_lt_of_le a.lt hLle)
  ·exact F.apart y z c (cl_of y c hy).1 (cl_of z c hz).1
 have ownc:∀b,Own (compEnvC scope (clOf env.cells scope.names []) H2.objs.size env) b->b=H2.objs.size∨Own env b:=by
  rintro b (z|⟨y,z⟩)
  ·exact .inl z
  ·exact .inr (.inr ⟨y,(cl_of y b z).1⟩)
 have own_lt:∀b,Own env b->b<s2.heap.objs.size:=fun b w=>by
  obtain⟨o,e⟩:=F2.own_there w
  exact Heap.lt_size e
 have owlt:∀b,ow b->b<s2.heap.objs.size:=fun b w=>by
  obtain⟨o,e⟩:=W.there 0 _ b hJ w
  exact Heap.lt_size e
 have loop:∀s₃:Shared,s₃={ s2 with heap:=h₁,toks:=s2.toks+([]:List (Str×Value)).length }->
   codeAny C.M A (.compLoop (.ListComp elt [⟨.Name x px,iter,ifs,0⟩] scope pos) 0 it (.ref s2.heap.objs.size) (compEnvC scope (clOf env.cells scope.names []) H2.objs.size env))
    (compPost C.M A X use Qr (.ref s2.heap.objs.size) H2.objs.size) s₃:=by
  rintro s₃ rfl
  refine Z3A (σ0:=σ) (h0:=s.heap) (R:=R) W ?_ ?_ ?_ (fun b w=>(fr b w).1) (fresh2 _ (Nat.le_refl _)) (fresh2 _ hLle) (fun b w=>?_) ?_ (fun w=>Nat.lt_irrefl _ (owlt _ w)) hDC
   (fun w=>absurd (owlt _ w) (Nat.not_lt.mpr hLle)) (fun b w z=>?_) (fun z=>?_) ?_ _ 0 [] σ' _ #[] rfl hok (by simpa using q H2.objs.size) S3 F3 (e2.trans e12) (W.frame _ _ _ hJ e12.tup fun b o _ e=>old b o e)
   (fun b w=>(fr b w).2) hacc .nil (S2.fresh' (Nat.le_refl _))
  ·exact lookup_relabel_local hx
  ·cases z:(clOf env.cells scope.names []).lookup x with
   | none=>exact z
   | some c=>have:=(cl_of x c z).2;rw[hx]at this;cases this
  ·cases z:ρc.get x with
   | none=>rfl
   | some v=>have:=(names_of _ (cap.get z).2).2.1 rfl;rw[hx]at this;cases this
  ·cases z:C.h₀.get? b with
   | none=>rfl
   | some o=>have:=S.base _ _ z;rw[(fr b w).1]at this;cases this
  ·cases z:C.h₀.get? s2.heap.objs.size with
   | none=>rfl
   | some o=>have:=S.base _ _ z;rw[fresh2 _ (Nat.le_refl _)]at this;cases this
  ·rcases ownc b z with y|y
   ·exact absurd (owlt _ w) (by rw[y];exact Nat.not_lt.mpr hLle)
   ·obtain⟨o,e⟩:=F.own_there y
    rw[(fr b w).1]at e;cases e
  ·rcases ownc _ z with y|y
   ·exact hDC y
   ·exact Nat.lt_irrefl _ (own_lt _ y)
  ·intro out σ2 s4 items hR S4 e4 pl4 r4 na4 ns4 nl4
   exact fin _ _ σ2 s4 out items hR S4 e4 pl4 r4 na4 ns4 nl4 S2.size (Nat.le_trans S2.size hLle) hDC (fresh2 _ (Nat.le_refl _)) (fresh2 _ hLle)
 exact codeAny_compStart_list (loop _ rfl) (W.self 0 _ _ _ (W.frame _ _ _ hJ e12.tup fun b o _ e=>old b o e) (loop _ rfl))
theorem Ev.comp{x:Str} {px pos:Pos} {elt iter:Expr} {ifs:List Expr} {scope:Scope} {ρc:Rho} {Q:pV}
  (hfree:(scope.names.all fun p=>p.2 != .free||(env.cells.lookup p.1).isSome)=true) (hck:Z1d scope=true) (hk:scope.kind=.function) (hx:scope.names.lookup x=some .local) (cap:Capt ρ scope.names ρc)
  (h:Src C A env (.Name x px) iter ρ σ (fun xs ok σ1=>∀L,CmpL C A (compEnvC scope (clOf env.cells scope.names []) L env) x ifs elt ok ρc (fun out σ2=>∀a,σ2 a=Option.none->Q (.ref a) (σ2.upd a (.list out))) xs [] σ1) X)
  (hs:∀x,foldedSetIterable iter env x=Pure.pure x:=by intro _;kernel_rfl):Ev C A env (.ListComp elt [⟨.Name x px,iter,ifs,0⟩] scope pos) ρ σ Q X:=by
 intro s S F
 rw[eval_ListComp]
 refine Z2z hfree hck hk hx cap hs S F h ?_
 intro acc L σ2 s2 out items q S2 e2 pl2 r2 na2 ⟨m,hm⟩ nl2 n1 n2 hne fa fl
 refine⟨m,hm,fun h' sb=>?_⟩
 have kp:∀b o,¬b=L->s2.heap.get? b=some o->h'.get? b=some o:=fun b o w e=>(sb.2 b w).trans e
 have nt:∀b o,b=L->s2.heap.get? b=some o->¬Imm o:=fun b o w z=>by
  subst w
  obtain⟨o',es,ep,ho,hd,_⟩:=hm
  rw[ho]at z;cases z;exact Imm.notDict hd
 have S3:St C σ2 { s2 with heap:=h',toks:=s2.toks }:=S2.ow (ow:=fun b=>b=L) kp nt (fun b w=>w▸nl2) (fun b w=>by
  subst w
  cases z:C.h₀.get? b with
  | none=>rfl
  | some o=>exact absurd (C.low _ _ z) (Nat.not_lt.mpr n2))
 have e3:Evo σ s.heap σ2 h':=e2.ow (ow:=fun b=>b=L) kp (fun b w=>w▸fl)
 obtain⟨S4,e4⟩:=S3.adopt (a:=acc) (o:=.list out) ⟨items,pl2.at fun o e=>kp _ _ hne e,r2.mono (Zt (ow:=fun b=>b=L) kp nt)⟩ n1 e3 fa
 exact⟨.ref acc,_,q acc na2,.ref _,S4,e4⟩
theorem Ex.assignComp{x y:Str} {px py pos spos:Pos} {elt iter:Expr} {ifs:List Expr} {scope:Scope} {ρc:Rho} {Q:pW} (hfree:(scope.names.all fun p=>p.2 != .free||(env.cells.lookup p.1).isSome)=true) (hck:Z1d scope=true) (hk:scope.kind=.function) (hx:scope.names.lookup x=some .local) (cap:Capt ρ scope.names ρc) (hy:env.kindOf y=some .local) (hyc:env.cells.lookup y=none) (h:Src C A env (.Name x px) iter ρ σ (fun xs ok σ1=>∀L,CmpL C A (compEnvC scope (clOf env.cells scope.names []) L env) x ifs elt ok ρc (fun out σ2=>∀a,σ2 a=none->Q .next (ρ.put y (.ref a)) (σ2.upd a (.list out))) xs [] σ1) X) (hsw:swapsWith (.ListComp elt [⟨.Name x px,iter,ifs,0⟩] scope pos) (some (.Name y py)) spos.line env=pure true:=by kernel_rfl) (hs:∀x,foldedSetIterable iter env x=pure x:=by intro _;kernel_rfl):Ex C A env (.Assign [.Name y py] (.ListComp elt [⟨.Name x px,iter,ifs,0⟩] scope pos) spos) ρ σ Q X:=by
 revert C A env ρ σ X x y px py pos spos elt iter ifs scope ρc Q;k_extra "e15";intro C A env ρ σ X x y px py pos spos elt iter ifs;k_extra "e3";intro scope ρc Q hfree hck hk hx cap hy hyc h hsw hs
 intro s S F
 rw[exec_Assign_Name_used _ _ _ _ hsw]
 refine wpAny_bind (wpAny_standAt (wpAny_bind ?_))
 rw[arm_evalThenUse_ListComp]
 refine wpAny_bind ?_
 refine Z2z (Qr:=fun _ s'=>wpAny C.M A (pure PUnit.unit) (fun _ s'=>wpAny C.M A (pure Flow.next) (SP C env σ s.heap Q) X s') X s') hfree hck hk hx cap hs S F h ?_
 intro acc L σ2 s2 out items q S2 e2 pl2 r2 na2 ⟨m,hm⟩ nl2 n1 n2 hne fa fl
 have F2:=F.evo e2
 obtain⟨m2,hm2,f2⟩:=F2.loc
 have hLe:L≠env.locals:=fun z=>by
  obtain⟨o,e⟩:=F.own_there (.inl rfl)
  rw[z,e]at fl;cases fl
 obtain⟨S4,e4⟩:=S2.adopt (a:=acc) (o:=.list out) ⟨items,pl2,r2⟩ n1 e2 fa
 have F4:Fm C (σ2.upd acc (.list out)) s2.heap env ρ:=F.evo e4
 refine wpAny_assign_Name (wpAny_storeName_local hy hm2 (fun h3 hn3 hs3=>?_) (by rw[F2.fn];rfl))
 obtain⟨S5,F5,e5⟩:=Fm.storeLocal (h:=s2.heap) (t:=s2.toks+1) S4 F4 hy hm2 f2 hn3 hs3 (VR.ref acc) hyc
 have hm3:h3.Ns L m:=hm.sameBut hs3 hLe
 refine⟨m,hm3,fun h' sb=>?_⟩
 have kp:∀b o,¬b=L->h3.get? b=some o->h'.get? b=some o:=fun b o w e=>(sb.2 b w).trans e
 have nt:∀b o,b=L->h3.get? b=some o->¬Imm o:=fun b o w z=>by
  subst w
  obtain⟨o',es,ep,ho,hd,_⟩:=hm3
  rw[ho]at z;cases z;exact Imm.notDict hd
 have nl4:(σ2.upd acc (.list out)) L=none:=by rw[Store.upd_ne _ _ hne.symm];exact nl2
 have S6:St C (σ2.upd acc (.list out)) { s2 with heap:=h',toks:=s2.toks+1 }:=St.ow (s:={ s2 with heap:=h3,toks:=s2.toks+1 }) (ow:=fun b=>b=L) S5 kp nt (fun b w=>w▸nl4) (fun b w=>by
  subst w
  cases z:C.h₀.get? b with
  | none=>rfl
  | some o=>exact absurd (C.low _ _ z) (Nat.not_lt.mpr n2))
 refine wpAny_pure (wpAny_pure ⟨.next,_,_,q acc na2,.next,S6,F5.ow (ow:=fun b=>b=L) kp nt (fun b w z=>?_),((e4.evoF F.own).trans e5).ow (ow:=fun b=>b=L) kp (fun b w=>w▸fl)⟩)
 subst w
 obtain⟨o,e⟩:=F.own_there z
 rw[e]at fl;cases fl
end
section
variable {C:Cx} {A:Around} {env:Env} {ρ:Rho} {σ:Store} {X:XP} {s:Shared}
mutual
inductive DR(C:Cx) (σ:Store):V->PyData->Prop where
 | none:DR C σ .none .none
 | bool (b:Bool):DR C σ (.bool b) (.bool b)
 | int (i:Int):DR C σ (.int i) (.int i)
 | str (x:Str):DR C σ (.str x) (.str x)
 | tup {xs:List V} {ds:List PyData}:DRs C σ xs ds->DR C σ (.tup xs) (.tuple ds)
 | list {l:Addr} {xs:List V} {ds:List PyData}:LstAt C σ l xs->DRs C σ xs ds->DR C σ (.ref l) (.list ds)
inductive DRs(C:Cx) (σ:Store):List V->List PyData->Prop where
 | nil:DRs C σ [] []
 | cons {x:V} {xs:List V} {d:PyData} {ds:List PyData}:DR C σ x d->DRs C σ xs ds->DRs C σ (x::xs) (d::ds)
end
mutual
theorem DR.reads(S:St C σ s) {x:V} {d:PyData} {v:Value} (h:DR C σ x d) (r:VR s.heap v x):∃as,Reads s.heap v d as:=by
 cases h with
 | none=>obtain rfl:=r.noneI;exact⟨_,.none⟩
 | bool b=>obtain rfl:=r.boolI;exact⟨_,.bool b⟩
 | int i=>obtain⟨t,rfl⟩:=r.intI;exact⟨_,.int i t⟩
 | str x=>obtain⟨t,rfl⟩:=r.strI;exact⟨_,.str x t⟩
 | tup ds=>
  obtain⟨a,items,n,rfl,e,r⟩:=r.tupI
  obtain⟨as,h⟩:=DRs.reads S ds r
  exact⟨_,.tuple e rfl rfl h⟩
 | list hl ds=>
  obtain rfl:=r.refI
  obtain⟨items,⟨o,e,c,n,hd⟩,r⟩:=hl.raw S
  obtain⟨as,h⟩:=DRs.reads S ds r
  exact⟨_,.list e c hd h⟩
theorem DRs.reads(S:St C σ s) {xs:List V} {ds:List PyData} {vs:List Value} (h:DRs C σ xs ds) (r:VRs s.heap vs xs):∃as,ReadsAll s.heap vs ds as:=by
 cases h with
 | nil=>obtain rfl:=r.nilI;exact⟨_,.nil⟩
 | cons a b=>
  obtain⟨_,_,rfl,r,rs⟩:=r.consI
  obtain⟨as,h⟩:=DR.reads S a r
  obtain⟨bs,h'⟩:=DRs.reads S b rs
  exact⟨_,.cons h h'⟩
end
theorem CmpWP.eq{x y:V} {d e:PyData} {Q:pV} (hx:DR C σ x d) (hy:DR C σ y e) (h1:d.canLay0=true) (h2:e.canLay0=true) (hu:A.units+min d.depth e.depth<cLine) (h:Q (.bool (PyData.eqv d e)) σ) :
  CmpWP C A .Eq x y σ Q X:=by
 intro s a b S ra rb
 obtain⟨as,r1⟩:=hx.reads S ra
 obtain⟨bs,r2⟩:=hy.reads S rb
 exact eqOverData _ _ _ _ _ _ _ _ _ _ _ _ r1 r2 h1 h2 hu (EP.pure S h (.bool _))
theorem CmpWP.ne{x y:V} {d e:PyData} {Q:pV} (hx:DR C σ x d) (hy:DR C σ y e) (h1:d.canLay0=true) (h2:e.canLay0=true) (hu:A.units+min d.depth e.depth<cLine) (h:Q (.bool (!PyData.eqv d e)) σ) :
  CmpWP C A .NotEq x y σ Q X:=by
 intro s a b S ra rb
 obtain⟨as,r1⟩:=hx.reads S ra
 obtain⟨bs,r2⟩:=hy.reads S rb
 exact neOverData _ _ _ _ _ _ _ _ _ _ _ _ r1 r2 h1 h2 hu (EP.pure S h (.bool _))
theorem CmpWP.inL{x:V} {l:Addr} {xs:List V} {d:PyData} {ds:List PyData} {Q:pV} (hl:LstAt C σ l xs) (hx:DR C σ x d) (hy:DRs C σ xs ds) (h1:d.canLay0=true) (h2:PyData.canLayAll0 ds=true) (hu:A.units+1+min (PyData.depthAll ds) d.depth<cLine)
  (h:Q (.bool (ds.any fun y=>PyData.eqv y d)) σ):CmpWP C A .In x (.ref l) σ Q X:=by
 intro s a b S ra rb
 obtain⟨as,r1⟩:=hx.reads S ra
 obtain⟨bs,r2⟩:=(DR.list hl hy).reads S rb
 exact in_list_reads r2 r1 h2 h1 hu (EP.pure S h (.bool _))
theorem CmpWP.notInL{x:V} {l:Addr} {xs:List V} {d:PyData} {ds:List PyData} {Q:pV} (hl:LstAt C σ l xs) (hx:DR C σ x d) (hy:DRs C σ xs ds) (h1:d.canLay0=true) (h2:PyData.canLayAll0 ds=true) (hu:A.units+1+min (PyData.depthAll ds) d.depth<cLine)
  (h:Q (.bool (!ds.any fun y=>PyData.eqv y d)) σ):CmpWP C A .NotIn x (.ref l) σ Q X:=by
 intro s a b S ra rb
 obtain⟨as,r1⟩:=hx.reads S ra
 obtain⟨bs,r2⟩:=(DR.list hl hy).reads S rb
 exact notIn_list_reads r2 r1 h2 h1 hu (EP.pure S h (.bool _))
theorem CmpWP.inT{x:V} {xs:List V} {d:PyData} {ds:List PyData} {Q:pV} (hx:DR C σ x d) (hy:DRs C σ xs ds) (h1:d.canLay0=true) (h2:PyData.canLayAll0 ds=true) (hu:A.units+1+min (PyData.depthAll ds) d.depth<cLine)
  (h:Q (.bool (ds.any fun y=>PyData.eqv y d)) σ):CmpWP C A .In x (.tup xs) σ Q X:=by
 intro s a b S ra rb
 obtain⟨as,r1⟩:=hx.reads S ra
 obtain⟨bs,r2⟩:=(DR.tup hy).reads S rb
 exact in_tuple_reads r2 r1 h2 h1 hu (EP.pure S h (.bool _))
theorem CmpWP.notInT{x:V} {xs:List V} {d:PyData} {ds:List PyData} {Q:pV} (hx:DR C σ x d) (hy:DRs C σ xs ds) (h1:d.canLay0=true) (h2:PyData.canLayAll0 ds=true) (hu:A.units+1+min (PyData.depthAll ds) d.depth<cLine)
  (h:Q (.bool (!ds.any fun y=>PyData.eqv y d)) σ):CmpWP C A .NotIn x (.tup xs) σ Q X:=by
 intro s a b S ra rb
 obtain⟨as,r1⟩:=hx.reads S ra
 obtain⟨bs,r2⟩:=(DR.tup hy).reads S rb
 exact notIn_tuple_reads r2 r1 h2 h1 hu (EP.pure S h (.bool _))
theorem CmpWP.isNone{x:V} {Q:pV} (h:Q (.bool (match x with|.none=>true|_=>false)) σ):CmpWP C A .Is x .none σ Q X:=by
 intro s a b S ra rb
 obtain rfl:=rb.noneI
 refine is_none (EP.pure S h ?_)
 cases ra<;>exact .bool _
theorem CmpWP.isNotNone{x:V} {Q:pV} (h:Q (.bool (match x with|.none=>false|_=>true)) σ):CmpWP C A .IsNot x .none σ Q X:=by
 intro s a b S ra rb
 obtain rfl:=rb.noneI
 refine isNot_none (EP.pure S h ?_)
 cases ra<;>exact .bool _
theorem TruWP.list{l:Addr} {xs:List V} {Q:Bool->Store->Prop} (hl:LstAt C σ l xs) (hz:xs.length<2 ^ 62) (h:Q (!xs.isEmpty) σ):TruWP C A (.ref l) σ Q X:=by
 intro s a S r
 obtain rfl:=r.refI
 obtain⟨items,il,rl⟩:=hl.raw S
 have e:=rl.length
 simp only[Array.length_toList]at e
 refine wpAny_truthy_list il (by exact Y5y hz e) ⟨σ,?_,S.toks _,.refl ..⟩
 have:items.isEmpty=xs.isEmpty:=by
  unfold Array.isEmpty
  rw[e]
  cases xs<;>simp
 rw[this];exact h
noncomputable def BltWP (C:Cx) (A:Around) (id:String) (args:List V) (σ:Store) (Q:pV) (X:XP):Prop:=CallWP C A (.builtin id) args σ Q X
theorem BltWP.len_list{l:Addr} {xs:List V} {Q:pV} (hl:LstAt C σ l xs) (hz:xs.length<2 ^ 62) (h:Q (.int xs.length) σ):CallWP C A (.builtin "len") [.ref l] σ Q X:=by
 intro s vs S r
 obtain⟨_,rfl,r1⟩:=r.one
 obtain rfl:=r1.refI
 obtain⟨items,il,rl⟩:=hl.raw S
 have e:=rl.length
 simp only[Array.length_toList]at e
 refine Calls.call_len_list il (by exact Y5y hz e) ⟨_,σ,h,?_,S.toks _,.refl ..⟩
 rw[e];exact .int _ _
end
noncomputable def Gets (s:Shared) (a:Value):Prop:=∃T id,s.TypeIs a T∧typeLookup (.type T) "__getitem__" = pure (some (.builtin id))
noncomputable def ItemWP (C:Cx) (A:Around) (o i:V) (σ:Store) (Q:pV) (X:XP):Prop:=
 ∀s a b,St C σ s->VR s.heap a o->VR s.heap b i->Gets s a∧wpAny C.M A (getItem a b) (EP C σ s.heap Q) X s
section
variable {C:Cx} {A:Around} {env:Env} {ρ:Rho} {σ:Store} {X:XP} {s:Shared}
theorem Gets.list{a:Addr} {items:Array Value} (h:s.heap.IsList a items):Gets s (.ref a):=⟨_,_,h.typeIs,PySem.slot_list_getitem.lookup⟩
theorem Gets.tup{a:Addr} {items:Array Value} {n:Nat} (h:s.heap.get? a=some (Zk items n)):Gets s (.ref a):=⟨_,_,⟨_,h,rfl⟩,PyProof.Rows.slot_tuple_getitem.lookup⟩
theorem Gets.str{x:Str} {t:Tok}:Gets s (.str x t):=⟨_,_,typeIs_str s x t,PyProof.Rows.slot_str_getitem.lookup⟩
set_option tactic.hygienic true in
theorem ZK{o i:Value} {slice value:Expr} {Q:pS} {E:XP} (g:Gets s o) (h:wpAny C.M A (getItem o i) Q E s) :
  wpAny C.M A (do let r ←subscripted slice (←getitemInPython o) o i;letTemporaryGo value o r;pure r) Q E s:=by
 revert C A s o i slice value Q E;k_extra "e9";intro C A s o i slice value Q E g h
 obtain⟨T,id,hT,hl⟩:=g
 refine wpAny_bind ?_
 rw[getitemInPython_of_ne hT.not_modules]
 refine wpAny_bind (wpAny_specialOf hT hl (wpAny_pure ?_))
 refine wpAny_bind (wpAny_mono (Q:=Q) ?_ (fun r s' q=>wpAny_bind (wpAny_letTemporaryGo (wpAny_pure q))) fun _ _ z=>z)
 cases slice<;>first|exact wpAny_operating h|(rename_i st _;cases st<;>exact wpAny_operating h)
theorem Ev.sub{value slice:Expr} {pos:Pos} {Q:pV} (h:Ev C A env value ρ σ (fun o σ1=>Ev C A env slice ρ σ1 (fun i σ2=>ItemWP C A o i σ2 Q X) X) X):Ev C A env (.Subscript value slice pos) ρ σ Q X:=by
 intro s S F
 rw[eval_Subscript]
 refine wpAny_bind (wpAny_mono (h s S F) ?_ fun _ _ z=>z)
 rintro o s1 ⟨x,σ1,h1,r1,S1,e1⟩
 refine wpAny_bind (wpAny_holding (wpAny_mono (h1 s1 S1 (F.evo e1)) ?_ fun _ _ z=>z))
 rintro i s2 ⟨y,σ2,h2,r2,S2,e2⟩
 obtain⟨g,w⟩:=h2 s2 o i S2 (r1.mono e2.tup) r2
 exact wpAny_bind (wpAny_standAt (wpAny_mono (ZK g w) (fun _ _ z=>(z.after e2).after e1) fun _ _ z=>z))
theorem ItemWP.list{l:Addr} {xs:List V} {k:Int} {y:V} {Q:pV} (hl:LstAt C σ l xs) (h0:0≤k) (hk:k<2 ^ 63) (hx:xs[k.toNat]?=some y) (h:Q y σ):ItemWP C A (.ref l) (.int k) σ Q X:=by
 intro s a b S ra rb
 obtain rfl:=ra.refI
 obtain⟨_,rfl⟩:=rb.intI
 obtain⟨items,il,rl⟩:=hl.raw S
 obtain⟨u,hu,ru⟩:=rl.get hx
 exact⟨.list il,wpAny_getItem_list il h0 hk (by simpa using hu) (EP.pure S h ru)⟩
theorem ItemWP.listNeg{l:Addr} {xs:List V} {k:Int} {y:V} {Q:pV} (hl:LstAt C σ l xs) (h0:k<0) (h1:-(xs.length:Int)≤k) (hf:-(2 ^ 63)≤k) (hx:xs[(k+xs.length).toNat]?=some y) (h:Q y σ):ItemWP C A (.ref l) (.int k) σ Q X:=by
 intro s a b S ra rb
 obtain rfl:=ra.refI
 obtain⟨_,rfl⟩:=rb.intI
 obtain⟨items,il,rl⟩:=hl.raw S
 obtain⟨u,hu,ru⟩:=rl.get hx
 have e:=rl.length
 simp only[Array.length_toList]at e
 exact⟨.list il,wpAny_getItem_list_neg il h0 (by rw[e];exact h1) hf (by rw[e];simpa using hu) (EP.pure S h ru)⟩
theorem ItemWP.tup{xs:List V} {k:Int} {j:Nat} {y:V} {Q:pV} (hlo:-(2 ^ 63)≤k) (hhi:k<2 ^ 63) (hj:seqIndex? k xs.length=some j) (hx:xs[j]?=some y) (h:Q y σ):ItemWP C A (.tup xs) (.int k) σ Q X:=by
 revert C A σ X xs k j y Q;k_extra "e9";intro C A σ X xs k j y Q hlo hhi hj hx h
 intro s a b S ra rb
 obtain⟨_,rfl⟩:=rb.intI
 cases ra with
 | @tup t items n _ ha hr=>
  obtain⟨u,hu,ru⟩:=hr.get hx
  have e:=hr.length
  simp only[Array.length_toList]at e
  exact⟨.tup ha,PyProof.Rows.getItem_tuple (t:=t) (items:=items) ⟨_,ha,rfl,n,rfl⟩ hlo hhi (by rw[e];exact hj) (by simpa using hu) (EP.pure S h ru)⟩
theorem ItemWP.str{x:Str} {k:Int} {c:Nat} {Q:pV} (hlo:-(2 ^ 63)≤k) (hhi:k<2 ^ 63) (hc:(seqIndex? k x.length).bind (x.cps[·]?)=some c) (h:Q (.str ⟨#[c]⟩) σ):ItemWP C A (.str x) (.int k) σ Q X:=by
 intro s a b S ra rb
 obtain⟨_,rfl⟩:=rb.intI
 obtain⟨_,rfl⟩:=ra.strI
 exact⟨.str,PyProof.Rows.getItem_str (by simp;exact Y6t hlo hhi) hc (EP.pureT S h (.str _ _))⟩
set_option tactic.hygienic true in
theorem ItemWP.sd{d:Addr} {es:List (Str×V)} {k:Str} {y:V} {Q:pV} (hd:σ d=some (.sd es)) (hx:sget es k=some y) (h:Q y σ):ItemWP C A (.ref d) (.str k) σ Q X:=by
 intro s a b S ra rb
 cases ra;cases rb
 rename_i t
 obtain⟨kvs,D,pr⟩:=S.rep _ _ hd
 obtain⟨u,hu,ru⟩:=pr.find (x:=k) (y:=y) hx
 refine⟨⟨_,_,D.typeIs,PySem.slot_dict_getitem.lookup⟩,?_⟩
 exact wpAny_getItem_of (knd:=strKind C.prog C.w) (k:=k) (by show(k==k)=true;simp) D.mapOf hu (EP.pureT S h ru)
noncomputable def iget (es:List (Int×V)) (x:Int):Option V:=(es.find? fun p=>decide (p.1=x)).map (·.2)
noncomputable def Prt (C:Cx) (A:Around) (env:Env) (e:Option Expr) (ρ:Rho) (σ:Store) (Q:Option Int->Store->Prop) (X:XP):Prop:=
 match e with
 | none=>Q none σ
 | some e=>Ev C A env e ρ σ (fun x σ1=>∃i,x=.int i∧Q (some i) σ1) X
theorem Prt.none{Q:Option Int->Store->Prop} (h:Q Option.none σ):Prt C A env Option.none ρ σ Q X:=h
theorem Prt.some{e:Expr} {Q:Option Int->Store->Prop} (h:Ev C A env e ρ σ (fun x σ1=>∃i,x=.int i∧Q (Option.some i) σ1) X):Prt C A env (Option.some e) ρ σ Q X:=h
theorem Prt.run{e:Option Expr} {Q:Option Int->Store->Prop} (h:Prt C A env e ρ σ Q X) (S:St C σ s) (F:Fm C σ s.heap env ρ) :
  wpAny C.M A (valueOrNone (evalOpt e env)) (fun v s'=>∃k σ',Q k σ'∧IsPart v k∧St C σ' s'∧Evo σ s.heap σ' s'.heap) X s:=by
 match e,h with
 | Option.none,h=>exact wpAny_pure ⟨Option.none,σ,h,.none,S,.refl ..⟩
 | Option.some e,h=>
  refine wpAny_mono (h s S F) ?_ fun _ _ z=>z
  rintro v s1 ⟨x,σ1,⟨i,rfl,q⟩,r1,S1,e1⟩
  cases r1
  exact⟨Option.some i,σ1,q,.int _ _,S1,e1⟩
noncomputable def Zp {α:Type} (xs:List α) (lo hi:Option Int):List α:=
 (sliceRange (sliceBounds lo hi none xs.length).1 (sliceBounds lo hi none xs.length).2.1 (sliceBounds lo hi none xs.length).2.2).filterMap (xs[·]?)
theorem VRs.pick{h:Heap} {vs:List Value} {xs:List V} (r:VRs h vs xs):∀ks:List Nat,VRs h (ks.filterMap (vs[·]?)) (ks.filterMap (xs[·]?))
 | []=>.nil
 | k::ks=>by
  have ih:=VRs.pick r ks
  cases q:xs[k]? with
  | none=>
   have:vs[k]?=none:=by
    have h1:=List.getElem?_eq_none_iff.mp q
    exact List.getElem?_eq_none_iff.mpr (by rw[r.length];exact h1)
   simp only[List.filterMap_cons,q,this];exact ih
  | some y=>
   obtain⟨u,hu,ru⟩:=r.get q
   simp only[List.filterMap_cons,q,hu];exact .cons ru ih
theorem Z24(items:Array Value) (lo hi:Option Int):(slicePick items lo hi none).toList=Zp items.toList lo hi:=by
 unfold slicePick Zp
 simp
end
noncomputable def TyV (C:Cx) (σ:Store) (x:V) (T:String):Prop:=∀s v,St C σ s->VR s.heap v x->s.TypeIs v T∧∀a,v=.ref a->∃ob,s.heap.get? a=some ob∧ob.dict=none
section
variable {C:Cx} {A:Around} {env:Env} {ρ:Rho} {σ:Store} {X:XP} {s:Shared}
theorem TyV.list{l:Addr} {xs:List V} (h:σ l=some (.list xs)):TyV C σ (.ref l) "list":=by
 intro s v S r
 cases r
 obtain⟨items,⟨n,e⟩,_⟩:=S.rep _ _ h
 exact⟨⟨_,e,rfl⟩,fun a q=>by cases q;exact⟨_,e,rfl⟩⟩
theorem TyV.id{l:Addr} {xs:List (Int×V)} (h:σ l=some (.id xs)):TyV C σ (.ref l) "dict":=by
 intro s v S r
 cases r
 obtain⟨kvs,D,_⟩:=S.rep _ _ h
 exact⟨D.typeIs,D.mapOf.noDict⟩
theorem TyV.str{x:Str}:TyV C σ (.str x) "str":=by
 intro s v S r
 cases r
 exact⟨typeIs_str _ _ _,fun a q=>by cases q⟩
theorem Ev.bmeth{o:Expr} {name:Str} {apos pos:Pos} {args:List Expr} {T id:String} {Q:pV} (pa:PlainAttrs T) (slot:Slot T name id) (hty:typeOf (.builtin id)=Pure.pure (.type "method_descriptor"))
  (h:Ev C A env o ρ σ (fun x σ1=>TyV C σ1 x T∧Ags C A env pos args ρ σ1 (fun xs σ2=>CallWP C A (.builtin id) (x::xs) σ2 Q X) X) X)
  (hbase:attributeBase o name env (eval o env)=eval o env:=by kernel_rfl)
  (hfew:((backTo pos (starEach args env)).all (fun x=>!x.1)&&(backToKw pos (keywordEach [] env)).all (fun x=>x.1.isSome)
   && decide (args.length+([]:List Keyword).length+(if ([]:List Keyword).isEmpty then 0 else 1)<30))=true:=by kernel_rfl)
  (hline:(apos.endLine==pos.line)=true:=by kernel_rfl) (hst:(backTo pos (starEach args env)).any (·.1)=false:=by kernel_rfl):Ev C A env (.Call (.Attribute o name apos) args [] pos) ρ σ Q X:=by
 intro s S F
 refine wpAny_Call_method hbase hfew hline pa slot hty (wpAny_mono (h s S F) ?_ fun _ _ z=>z)
 rintro ov s1 ⟨x,σ1,⟨t,q⟩,r1,S1,e1⟩
 obtain⟨t1,t2⟩:=t s1 ov S1 r1
 exact⟨t1,t2,wpAny_mono (Zi (first:=[ov]) (fx:=[x]) Kp.blt S1 (F.evo e1) (.cons r1 .nil) q hst) (fun _ _ z=>z.after e1) fun _ _ z=>z⟩
theorem Z1C{l:Addr} {xs:List V} {items:Array Value} {n:Nat} {f:Array Value->Array Value} {ys:List V} (S:St C σ s) (hl:σ l=some (.list xs)) (e:s.heap.get? l=some { cls:=.type "list",data:=.seq items n })
  (r:VRs s.heap (f items).toList ys):St C (σ.upd l (.list ys)) { s with heap:=s.heap.update l (Obj.mapSeq f) }∧Evo σ s.heap (σ.upd l (.list ys)) (s.heap.update l (Obj.mapSeq f)):=by
 have sb:Heap.SameBut l s.heap (s.heap.update l (Obj.mapSeq f)):=Heap.SameBut.update ..
 have tk:TupKeep s.heap (s.heap.update l (Obj.mapSeq f)):=Z6 sb (S.rep _ _ hl).notTup
 have e':∃n',(s.heap.update l (Obj.mapSeq f)).get? l=some { cls:=.type "list",data:=.seq (f items) n' }:=by
  refine⟨if (f items).size==items.size then n else n+1,?_⟩
  rw[Heap.get?_update_self _ e (by rfl)];rfl
 exact S.set (t:=s.toks) hl sb ⟨f items,e',r.mono tk⟩
theorem CallWP.append{l:Addr} {xs:List V} {x:V} {Q:pV} (hl:σ l=some (.list xs)) (hz:xs.length≤sizeLine) (h:Q .none (σ.upd l (.list (xs++[x])))):CallWP C A (.builtin "list.append") [.ref l,x] σ Q X:=by
 intro s vs S r
 obtain⟨_,_,rfl,r1,r2⟩:=r.two
 obtain rfl:=r1.refI
 obtain⟨items,pl,rl⟩:=S.rep _ _ hl
 have e:=rl.length
 simp only[Array.length_toList]at e
 refine wpAny_list_append_plain pl (fun h' pl' sb=>?_) (by exact Y5L hz e)
 have tk:TupKeep s.heap h':=Z6 sb (S.rep _ _ hl).notTup
 obtain⟨S',e'⟩:=S.set (t:=s.toks) (o':=.list (xs++[x])) hl sb ⟨_,pl',by simp only[Array.toList_push];exact(rl.mono tk).append (.cons (r2.mono tk) .nil)⟩
 exact⟨.none,_,h,.none,S',e'⟩
theorem VRs.erase{h:Heap} {vs:List Value} {xs:List V} (r:VRs h vs xs):∀k:Nat,VRs h (vs.eraseIdx k) (xs.eraseIdx k):=by
 refine r.ind (P:=fun vs xs=>∀k:Nat,VRs h (vs.eraseIdx k) (xs.eraseIdx k)) (fun _=>.nil) fun a b ih k=>?_
 cases k with
 | zero=>exact b
 | succ k=>exact .cons a (ih k)
set_option tactic.hygienic true in
theorem CallWP.pop_at{l:Addr} {xs:List V} {k:Int} {j:Nat} {y:V} {Q:pV} (hl:σ l=some (.list xs)) (hk:Builtin.List.listFitsIndex k=true) (hj:seqIndex? k xs.length=some j) (hy:xs[j]?=some y) (hz:xs.length≤sizeLine) (h:Q y (σ.upd l (.list (xs.eraseIdx j)))):CallWP C A (.builtin "list.pop") [.ref l,.int k] σ Q X:=by
 revert C A σ X l xs k j y Q;k_extra "e10";intro C A σ X l xs k j y Q hl hk hj hy hz h
 intro s vs S r
 obtain⟨_,_,rfl,r1,r2⟩:=r.two
 obtain rfl:=r1.refI
 obtain⟨_,rfl⟩:=r2.intI
 rename_i t
 obtain⟨items,⟨n,e⟩,rl⟩:=S.rep _ _ hl
 have el:=rl.length
 simp only[Array.length_toList]at el
 obtain⟨u,hu,ru⟩:=rl.get hy
 have hne:items.isEmpty=false:=by
  have:j<xs.length:=(List.getElem?_eq_some_iff.mp hy).1
  have h0:items.size≠0:=by exact Y5N el this
  simpa [Array.isEmpty] using h0
 refine wpAny_call_entry F.slot_list_pop ⟨_,e,rfl⟩ F.entry_list_pop ?_ (F.args_list_pop_2 _ _)
 show wpAny _ _ (do
  if !Builtin.List.listFitsIndex k then rule "list.pop.index-too-large";raiseError "OverflowError" "Python int too large to convert to C ssize_t"
  let xs ←Builtin.List.listItems (.ref l)
  if xs.isEmpty then rule "list.pop.empty";raiseError "IndexError" "pop from empty list"
  match (seqIndex? k xs.size).bind fun k=>xs[k]?.map (k,·) with
  | some (k,x)=>Builtin.List.listUpdate (.ref l) (·.eraseIdxIfInBounds k);ret x
  | none=>rule "list.pop.out-of-range";raiseError "IndexError" "pop index out of range") _ _ s
 rw[hk]
 refine wpAny_bind (wpAny_listItems e rfl ?_)
 have hu':items[j]?=some u:=by simpa using hu
 simp only[hne,el,hj,Option.bind_some,hu',Option.map_some,Bool.false_eq_true,if_false]
 refine wpAny_bind (wpAny_updateSeq e rfl (wpAny_pure ⟨_,rfl,?_⟩) (by exact Y5L hz el) (by show(items.eraseIdxIfInBounds j).size≤_;unfold Array.eraseIdxIfInBounds;split<;>(try simp)<;>(first|lia|omega)))
 obtain⟨S',e'⟩:=Z1C (f:=fun x=>x.eraseIdxIfInBounds j) S hl e (ys:=xs.eraseIdx j) (by
  have:(items.eraseIdxIfInBounds j).toList=items.toList.eraseIdx j:=by
   have hj':j<items.size:=by rw[el];exact(List.getElem?_eq_some_iff.mp hy).1
   simp[Array.eraseIdxIfInBounds,hj',Array.toList_eraseIdx]
  rw[this];exact rl.erase j)
 exact⟨y,_,h,ru.mono e'.tup,S',e'⟩
theorem Z1D{l:Addr} {items:Array Value} {n j:Nat} {x:Value} (hz:items.size≤sizeLine) (hj:j<items.size):∀(k i:Nat) (R:Result->Shared->Prop),j-i=k->i≤j->s.heap.get? l=some { cls:=.type "list",data:=.seq items n }->
  (∀m (hm:m<items.size),i≤m->m<j->EqAt A.in1 s items[m] x false)->EqAt A.in1 s items[j] x true->R (.ok (.ret .none)) { s with heap:=s.heap.update l (Obj.mapSeq fun xs=>xs.eraseIdxIfInBounds j) }->
  codeAny C.M A (.builtin "list.remove.loop" ⟨[.ref l,x,rawInt i],[]⟩) R s:=by
 revert C A s l items n j x;k_extra "e8";intro C A s l items n j x hz hj
 intro k
 induction k with
 | zero=>
  intro i R hk hij e hno hit hR
  have:i=j:=by exact Y5O hk hij
  subst this
  refine codeAny_builtin MeetsSeq.entry_remove_loop ?_
  rw[Around.under_plainId MeetsSeq.plain_remove_loop _]
  refine wpAny_bind (wpAny_listItems e rfl ?_)
  have hi:items[((i:Nat):Int).toNat]?=some items[i]:=by simp[hj]
  rw[hi]
  refine wpAny_bind (hit C.prog C.w _ _ ?_)
  refine wpAny_bind (wpAny_updateSeq e rfl (wpAny_pure hR) hz ?_)
  show(items.eraseIdxIfInBounds i).size≤_
  unfold Array.eraseIdxIfInBounds
  split<;>(try simp)<;>(first|lia|omega)
 | succ k ih=>
  intro i R hk hij e hno hit hR
  have hlt:i<items.size:=by exact Y5P hj hij
  refine codeAny_builtin MeetsSeq.entry_remove_loop ?_
  rw[Around.under_plainId MeetsSeq.plain_remove_loop _]
  refine wpAny_bind (wpAny_listItems e rfl ?_)
  have hi:items[((i:Nat):Int).toNat]?=some items[i]:=by simp[hlt]
  rw[hi]
  refine wpAny_bind (hno i hlt (Nat.le_refl _) (by exact Y5Q hk) C.prog C.w _ _ ?_)
  refine wpAny_pure ⟨plainId_quiet MeetsSeq.plain_remove_loop _,?_⟩
  exact ih (i+1) R (by exact Y5R hk) (by exact Y5S hk) e (fun m hm h1 h2=>hno m hm (by exact Y3V h1) h2) hit hR
theorem DRs.get{xs:List V} {ds:List PyData} (h:DRs C σ xs ds) {i:Nat} {x:V} (e:xs[i]?=some x):∃d,ds[i]?=some d∧DR C σ x d:=by
 cases h with
 | nil=>cases e
 | cons a b=>
  cases i with
  | zero=>cases e;exact⟨_,rfl,a⟩
  | succ i=>exact DRs.get b e
theorem DRs.length:∀{xs:List V} {ds:List PyData},DRs C σ xs ds->xs.length=ds.length:=by
 intro xs
 induction xs with
 | nil=>intro ds r;cases r;rfl
 | cons x xs ih=>
  intro ds r
  cases r with
  | cons a b=>exact congrArg (·+1) (ih b)
theorem Z3B{ds:List PyData} {i:Nat} {d:PyData} (h:PyData.canLayAll0 ds=true) (e:ds[i]?=some d):d.canLay0=true:=
 PyData.canLay0_of_mem ds d h (List.mem_of_getElem? e)
theorem Z2d:∀{ds:List PyData} {i:Nat} {d:PyData},ds[i]?=some d->d.depth≤PyData.depthAll ds
 | [],_,_,e=>by simp at e
 | _::ds,0,_,e=>by simp at e;subst e;exact Nat.le_max_left _ _
 | _::ds,i+1,_,e=>Nat.le_trans (Z2d (ds:=ds) (i:=i) (by simpa using e)) (Nat.le_max_right _ _)
theorem CallWP.remove{l:Addr} {xs:List V} {x:V} {d:PyData} {ds:List PyData} {j:Nat} {Q:pV} (hl:σ l=some (.list xs)) (hx:DR C σ x d) (hy:DRs C σ xs ds) (h1:d.canLay0=true) (h2:PyData.canLayAll0 ds=true) (hu:A.units+1+min (PyData.depthAll ds) d.depth<cLine) (hz:xs.length≤sizeLine) (hj:ds.findIdx? (fun y=>PyData.eqv y d)=some j) (h:Q .none (σ.upd l (.list (xs.eraseIdx j)))):CallWP C A (.builtin "list.remove") [.ref l,x] σ Q X:=by
 revert C A σ X l xs x d ds j Q;k_extra "e11";intro C A σ X l xs x d ds j Q hl hx hy h1 h2 hu hz hj h
 intro s vs S r
 cases r with
 | cons r1 r2=>
 cases r2 with
 | @cons v _ _ _ r2 r3=>
 cases r3;cases r1
 obtain⟨items,⟨n,e⟩,rl⟩:=S.rep _ _ hl
 have el:=rl.length
 simp only[Array.length_toList]at el
 obtain⟨hjl,hjt,hjf⟩:=List.findIdx?_eq_some_iff_getElem.mp hj
 have hjs:j<items.size:=by rw[el,hy.length];exact hjl
 obtain⟨as,rx⟩:=hx.reads S r2
 have at_:∀m (hm:m<items.size),∃dm,ds[m]?=some dm∧EqAt A.in1 s items[m] v (PyData.eqv dm d):=fun m hm=>by
  obtain⟨y,hy1,hy2⟩:=rl.get' (i:=m) (u:=items[m]) (by simp[hm])
  obtain⟨dm,hd1,hd2⟩:=hy.get hy1
  obtain⟨bs,rd⟩:=hd2.reads S hy2
  refine⟨dm,hd1,fun prog w E Q hq=>eqBoolOverData prog w _ E s _ _ dm d _ _ Q rd rx (Z3B h2 hd1) h1 ?_ hq⟩
  have:=Z2d hd1
  show A.units+1+_<_
  exact Y5T hu this
 refine wpAny_call (codeAny_call_builtin F.slot_list_remove.plain F.entry_list_remove (F.slot_list_remove.check _ _ _ _ _ _ _ _ ⟨_,e,rfl⟩ (F.args_list_remove_2 _ _) ?_))
 refine wpAny_pure ⟨plainId_quiet MeetsSeq.plain_remove_loop _,?_⟩
 refine Z1D (j:=j) (by exact Y5L hz el) hjs _ 0 _ rfl (Nat.zero_le _) e (fun m hm _ hmj=>?_) ?_ ?_
 ·obtain⟨dm,hd1,hd2⟩:=at_ m hm
  have hf:=hjf m hmj
  have:ds[m]?=some ds[m]:=by simp
  rw[this]at hd1;cases hd1
  rw[Bool.not_eq_true]at hf
  rw[hf]at hd2;exact hd2
 ·obtain⟨dm,hd1,hd2⟩:=at_ j hjs
  have:ds[j]?=some ds[j]:=by simp
  rw[this]at hd1;cases hd1
  rw[hjt]at hd2;exact hd2
 ·obtain⟨S',e'⟩:=Z1C (f:=fun x=>x.eraseIdxIfInBounds j) S hl e (ys:=xs.eraseIdx j) (by
   have:(items.eraseIdxIfInBounds j).toList=items.toList.eraseIdx j:=by
    simp[Array.eraseIdxIfInBounds,hjs,Array.toList_eraseIdx]
   rw[this];exact rl.erase j)
  exact⟨.none,_,h,.none,S',e'⟩
end
inductive Ty where
 | none|bool|int|str|tup|list|dict
theorem Z6y:Nonempty Ty:=⟨.none⟩
noncomputable def Ty.name:Ty->String
 | .none=>"NoneType" | .bool=>"bool" | .int=>"int" | .str=>"str" | .tup=>"tuple" | .list=>"list" | .dict=>"dict"
inductive HasTy(C:Cx) (σ:Store):V->Ty->Prop
 | none:HasTy C σ .none .none
 | bool (b:Bool):HasTy C σ (.bool b) .bool
 | int (i:Int):HasTy C σ (.int i) .int
 | str (x:Str):HasTy C σ (.str x) .str
 | tup (xs:List V):HasTy C σ (.tup xs) .tup
 | list {l:Addr} {xs:List V}:LstAt C σ l xs->HasTy C σ (.ref l) .list
 | sd {l:Addr} {xs:List (Str×V)}:σ l=some (.sd xs)->HasTy C σ (.ref l) .dict
 | id {l:Addr} {xs:List (Int×V)}:σ l=some (.id xs)->HasTy C σ (.ref l) .dict
noncomputable def isiB:Ty->String->Bool
 | .bool,"int"=>true
 | .bool,"bool"=>true
 | .int,"int"=>true
 | .str,"str"=>true
 | .tup,"tuple"=>true
 | .list,"list"=>true
 | _,_=>false
section
variable {C:Cx} {A:Around} {env:Env} {ρ:Rho} {σ:Store} {X:XP} {s:Shared}
noncomputable def Z5a (s:Shared) (v:Value):Ty->Prop
 | .none=>v=.none
 | .bool=>∃b,v=.bool b
 | .int=>∃i t,v=.int i t
 | .str=>∃x t,v=.str x t
 | .tup=>∃a o,v=.ref a∧s.heap.get? a=some o∧o.cls=.type "tuple"
 | .list=>∃a o,v=.ref a∧s.heap.get? a=some o∧o.cls=.type "list"
 | .dict=>∃a o,v=.ref a∧s.heap.get? a=some o∧o.cls=.type "dict"
theorem HasTy.bears{x:V} {t:Ty} (h:HasTy C σ x t) {v:Value} (S:St C σ s) (r:VR s.heap v x):Z5a s v t:=by
 cases h with
 | none=>exact r.noneI
 | bool b=>exact⟨b,r.boolI⟩
 | int i=>exact⟨i,r.intI⟩
 | str i=>exact⟨i,r.strI⟩
 | tup xs=>
  obtain⟨a,items,n,rfl,e,_⟩:=r.tupI
  exact⟨_,_,rfl,e,rfl⟩
 | list hl=>
  obtain rfl:=r.refI
  obtain⟨items,⟨o,e,c,_⟩,_⟩:=hl.raw S
  exact⟨_,_,rfl,e,c⟩
 | sd hl=>
  obtain rfl:=r.refI
  obtain⟨kvs,D,_⟩:=S.rep _ _ hl
  obtain⟨o,e,c⟩:=D.typeIs (s:=s)
  exact⟨_,_,rfl,e,c⟩
 | id hl=>
  obtain rfl:=r.refI
  obtain⟨kvs,D,_⟩:=S.rep _ _ hl
  obtain⟨o,e,c⟩:=D.typeIs (s:=s)
  exact⟨_,_,rfl,e,c⟩
theorem Z5o{v:Value} {t:Ty} {U:String} {Q:pS} {E:XP} (b:Z5a s v t) (hU:U="int" ∨U="bool" ∨U="str" ∨U="list" ∨U="tuple") (h:∀tk,Q (.bool (isiB t U)) { s with toks:=tk }) :
  wpAny C.M A (call (.builtin "isinstance") [v,.type U]) Q E s:=by
 revert C A s v t U Q E;k_extra "e8";intro C A s v t U Q E b hU h
 rcases hU with rfl|rfl|rfl|rfl|rfl
 ·cases t with
  | none=>subst b;exact call_isinstance (isinstance_false_none (by decide +kernel) F.isi_meta_int F.sub_NoneType_int) (h _)
  | bool=>obtain⟨_,rfl⟩:=b;exact call_isinstance (isinstance_true (Tx:="bool") F.isi_meta_int F.sub_bool_int) ⟨rfl,h s.toks⟩
  | int=>obtain⟨_,_,rfl⟩:=b;exact call_isinstance (isinstance_true (Tx:="int") F.isi_meta_int F.sub_int_int) ⟨rfl,h s.toks⟩
  | str=>obtain⟨_,_,rfl⟩:=b;exact call_isinstance (isinstance_false_str (by decide +kernel) F.isi_meta_int F.sub_str_int) (h _)
  | tup=>obtain⟨a,o,rfl,e,hc⟩:=b;exact call_isinstance (isinstance_false_tuple (by decide +kernel) F.isi_meta_int F.sub_tuple_int) ⟨⟨o,e,hc⟩,h _⟩
  | list=>obtain⟨a,o,rfl,e,hc⟩:=b;exact call_isinstance (isinstance_false_list (by decide +kernel) F.isi_meta_int F.sub_list_int) ⟨⟨o,e,hc⟩,h _⟩
  | dict=>obtain⟨a,o,rfl,e,hc⟩:=b;exact call_isinstance (isinstance_false_dict (by decide +kernel) F.isi_meta_int F.sub_dict_int) ⟨⟨o,e,hc⟩,h _⟩
 ·cases t with
  | none=>subst b;exact call_isinstance (isinstance_false_none (by decide +kernel) F.isi_meta_bool F.sub_NoneType_bool) (h _)
  | bool=>obtain⟨_,rfl⟩:=b;exact call_isinstance (isinstance_true (Tx:="bool") F.isi_meta_bool F.sub_bool_bool) ⟨rfl,h s.toks⟩
  | int=>obtain⟨_,_,rfl⟩:=b;exact call_isinstance (isinstance_false_int (by decide +kernel) F.isi_meta_bool F.sub_int_bool) (h _)
  | str=>obtain⟨_,_,rfl⟩:=b;exact call_isinstance (isinstance_false_str (by decide +kernel) F.isi_meta_bool F.sub_str_bool) (h _)
  | tup=>obtain⟨a,o,rfl,e,hc⟩:=b;exact call_isinstance (isinstance_false_tuple (by decide +kernel) F.isi_meta_bool F.sub_tuple_bool) ⟨⟨o,e,hc⟩,h _⟩
  | list=>obtain⟨a,o,rfl,e,hc⟩:=b;exact call_isinstance (isinstance_false_list (by decide +kernel) F.isi_meta_bool F.sub_list_bool) ⟨⟨o,e,hc⟩,h _⟩
  | dict=>obtain⟨a,o,rfl,e,hc⟩:=b;exact call_isinstance (isinstance_false_dict (by decide +kernel) F.isi_meta_bool F.sub_dict_bool) ⟨⟨o,e,hc⟩,h _⟩
 ·cases t with
  | none=>subst b;exact call_isinstance (isinstance_false_none (by decide +kernel) F.isi_meta_str F.sub_NoneType_str) (h _)
  | bool=>obtain⟨_,rfl⟩:=b;exact call_isinstance (isinstance_false_bool (by decide +kernel) F.isi_meta_str F.sub_bool_str) (h _)
  | int=>obtain⟨_,_,rfl⟩:=b;exact call_isinstance (isinstance_false_int (by decide +kernel) F.isi_meta_str F.sub_int_str) (h _)
  | str=>obtain⟨_,_,rfl⟩:=b;exact call_isinstance (isinstance_true (Tx:="str") F.isi_meta_str F.sub_str_str) ⟨rfl,h s.toks⟩
  | tup=>obtain⟨a,o,rfl,e,hc⟩:=b;exact call_isinstance (isinstance_false_tuple (by decide +kernel) F.isi_meta_str F.sub_tuple_str) ⟨⟨o,e,hc⟩,h _⟩
  | list=>obtain⟨a,o,rfl,e,hc⟩:=b;exact call_isinstance (isinstance_false_list (by decide +kernel) F.isi_meta_str F.sub_list_str) ⟨⟨o,e,hc⟩,h _⟩
  | dict=>obtain⟨a,o,rfl,e,hc⟩:=b;exact call_isinstance (isinstance_false_dict (by decide +kernel) F.isi_meta_str F.sub_dict_str) ⟨⟨o,e,hc⟩,h _⟩
 ·cases t with
  | none=>subst b;exact call_isinstance (isinstance_false_none (by decide +kernel) F.isi_meta_list F.sub_NoneType_list) (h _)
  | bool=>obtain⟨_,rfl⟩:=b;exact call_isinstance (isinstance_false_bool (by decide +kernel) F.isi_meta_list F.sub_bool_list) (h _)
  | int=>obtain⟨_,_,rfl⟩:=b;exact call_isinstance (isinstance_false_int (by decide +kernel) F.isi_meta_list F.sub_int_list) (h _)
  | str=>obtain⟨_,_,rfl⟩:=b;exact call_isinstance (isinstance_false_str (by decide +kernel) F.isi_meta_list F.sub_str_list) (h _)
  | tup=>obtain⟨a,o,rfl,e,hc⟩:=b;exact call_isinstance (isinstance_false_tuple (by decide +kernel) F.isi_meta_list F.sub_tuple_list) ⟨⟨o,e,hc⟩,h _⟩
  | list=>obtain⟨a,o,rfl,e,hc⟩:=b;exact call_isinstance (isinstance_true (Tx:="list") F.isi_meta_list F.sub_list_list) ⟨⟨o,e,hc⟩,h s.toks⟩
  | dict=>obtain⟨a,o,rfl,e,hc⟩:=b;exact call_isinstance (isinstance_false_dict (by decide +kernel) F.isi_meta_list F.sub_dict_list) ⟨⟨o,e,hc⟩,h _⟩
 ·cases t with
  | none=>subst b;exact call_isinstance (isinstance_false_none (by decide +kernel) F.isi_meta_tuple F.sub_NoneType_tuple) (h _)
  | bool=>obtain⟨_,rfl⟩:=b;exact call_isinstance (isinstance_false_bool (by decide +kernel) F.isi_meta_tuple F.sub_bool_tuple) (h _)
  | int=>obtain⟨_,_,rfl⟩:=b;exact call_isinstance (isinstance_false_int (by decide +kernel) F.isi_meta_tuple F.sub_int_tuple) (h _)
  | str=>obtain⟨_,_,rfl⟩:=b;exact call_isinstance (isinstance_false_str (by decide +kernel) F.isi_meta_tuple F.sub_str_tuple) (h _)
  | tup=>obtain⟨a,o,rfl,e,hc⟩:=b;exact call_isinstance (isinstance_true (Tx:="tuple") F.isi_meta_tuple F.sub_tuple_tuple) ⟨⟨o,e,hc⟩,h s.toks⟩
  | list=>obtain⟨a,o,rfl,e,hc⟩:=b;exact call_isinstance (isinstance_false_list (by decide +kernel) F.isi_meta_tuple F.sub_list_tuple) ⟨⟨o,e,hc⟩,h _⟩
  | dict=>obtain⟨a,o,rfl,e,hc⟩:=b;exact call_isinstance (isinstance_false_dict (by decide +kernel) F.isi_meta_tuple F.sub_dict_tuple) ⟨⟨o,e,hc⟩,h _⟩
theorem CallWP.isi{x:V} {t:Ty} {U:String} {Q:pV} (ht:HasTy C σ x t) (hU:U="int" ∨U="bool" ∨U="str" ∨U="list" ∨U="tuple") (h:Q (.bool (isiB t U)) σ):CallWP C A (.builtin "isinstance") [x,.typ U] σ Q X:=by
 intro s vs S r
 obtain⟨_,_,rfl,r1,r2⟩:=r.two
 obtain rfl:=r2.typI
 exact Z5o (ht.bears S r1) hU fun tk=>EP.pureT S h (.bool _)
theorem CallWP.listOf{l:Addr} {xs:List V} {Q:pV} (hl:LstAt C σ l xs) (hz:xs.length≤sizeLine) (h:∀a,σ a=Option.none->Q (.ref a) (σ.upd a (.list xs))):CallWP C A (.type "list") [.ref l] σ Q X:=by
 intro s vs S r
 obtain⟨_,rfl,r1⟩:=r.one
 obtain rfl:=r1.refI
 obtain⟨items,⟨o,e,c,n,hd⟩,rl⟩:=hl.raw S
 have el:=rl.length
 simp only[Array.length_toList]at el
 refine call_list_seq l (.inl rfl) e c hd (fun h' c' kp e'=>?_) (by exact Y5L hz el)
 have S':St C σ { s with heap:=h',toks:=s.toks }:=S.ext kp
 obtain⟨S2,e2⟩:=S'.adopt (a:=s.heap.objs.size) (o:=.list xs) (σ0:=σ) (h0:=s.heap) ⟨items,⟨c',e'⟩,rl.mono fun _ _ _ q=>kp _ _ q⟩ S.size (.ext kp) (get?_fresh _)
 exact⟨.ref _,_,h _ S.fresh,.ref _,S2,e2⟩
theorem CallWP.listOfTup{xs:List V} {Q:pV} (hz:xs.length≤sizeLine) (h:∀a,σ a=Option.none->Q (.ref a) (σ.upd a (.list xs))):CallWP C A (.type "list") [.tup xs] σ Q X:=by
 intro s vs S r
 obtain⟨_,rfl,r1⟩:=r.one
 cases r1 with
 | @tup a items n _ e rl=>
 have el:=rl.length
 simp only[Array.length_toList]at el
 refine call_list_seq a (.inr rfl) e rfl rfl (fun h' c' kp e'=>?_) (by exact Y5L hz el)
 have S':St C σ { s with heap:=h',toks:=s.toks }:=S.ext kp
 obtain⟨S2,e2⟩:=S'.adopt (a:=s.heap.objs.size) (o:=.list xs) (σ0:=σ) (h0:=s.heap) ⟨items,⟨c',e'⟩,rl.mono fun _ _ _ q=>kp _ _ q⟩ S.size (.ext kp) (get?_fresh _)
 exact⟨.ref _,_,h _ S.fresh,.ref _,S2,e2⟩
theorem CallWP.tupOf{l:Addr} {xs:List V} {Q:pV} (hl:LstAt C σ l xs) (hz:xs.length≤sizeLine) (h:Q (.tup xs) σ):CallWP C A (.type "tuple") [.ref l] σ Q X:=by
 intro s vs S r
 obtain⟨_,rfl,r1⟩:=r.one
 obtain rfl:=r1.refI
 obtain⟨items,il,rl⟩:=hl.raw S
 have el:=rl.length
 simp only[Array.length_toList]at el
 refine call_tuple_list il (fun h' kp=>?_) (by exact Y5L hz el)
 have S':St C σ { s with heap:=h',toks:=s.toks }:=S.ext kp
 exact⟨.tup xs,σ,h,.tup (n:=0) (Heap.get?_push_size _ rfl) ((rl.mono fun _ _ _ q=>kp _ _ q).push),S'.push,(Evo.ext kp).trans .push⟩
theorem CallWP.len_tup{xs:List V} {Q:pV} (hz:xs.length<2 ^ 62) (h:Q (.int xs.length) σ):CallWP C A (.builtin "len") [.tup xs] σ Q X:=by
 revert C A σ X xs Q;k_extra "e6";intro C A σ X xs Q hz h
 intro s vs S r
 obtain⟨_,rfl,r1⟩:=r.one
 cases r1 with
 | @tup a items n _ e rl=>
 have el:=rl.length
 simp only[Array.length_toList]at el
 refine PyProof.Rows.len_tuple (t:=a) (items:=items) ⟨_,e,rfl,n,rfl⟩ (by exact Y5y hz el) ⟨_,σ,h,?_,S.toks _,.refl ..⟩
 rw[el];exact .int _ _
theorem CallWP.len_str{x:Str} {Q:pV} (hz:x.length<2 ^ 62) (h:Q (.int x.length) σ):CallWP C A (.builtin "len") [.str x] σ Q X:=by
 intro s vs S r
 obtain⟨_,rfl,r1⟩:=r.one
 obtain⟨_,rfl⟩:=r1.strI
 exact PyProof.Rows.len_str (by exact Y6j hz) ⟨_,σ,h,.int _ _,S.toks _,.refl ..⟩
end
section
variable {C:Cx} {A:Around} {env:Env} {ρ:Rho} {σ:Store} {X:XP} {s:Shared}
theorem BinWP.cat{l b:Addr} {xs ys:List V} {Q:pV} (hl:LstAt C σ l xs) (hb:LstAt C σ b ys) (hz:xs.length+ys.length≤sizeLine) (h:∀a,σ a=none->Q (.ref a) (σ.upd a (.list (xs++ys)))) :
  BinWP C A .Add (.ref l) (.ref b) σ Q X:=by
 revert C A σ X l b xs ys Q;k_extra "e9";intro C A σ X l b xs ys Q hl hb hz h
 intro s u v S r1 r2
 cases r1;cases r2
 obtain⟨items,⟨⟨c1,d1,t1,s1⟩,ho,hc,n,hd⟩,rl⟩:=hl.raw S
 obtain⟨items2,⟨⟨c2,d2,t2,s2⟩,ho2,hc2,n2,hd2⟩,rl2⟩:=hb.raw S
 have el:=rl.length
 have el2:=rl2.length
 simp only[Array.length_toList]at el el2
 dsimp only at hc hd hc2 hd2
 subst hc hd hc2 hd2
 refine concat_meets ⟨_,ho,rfl⟩ ⟨_,ho2,rfl⟩ noFill_list_add seq_list_add PySem.F.slot_list_add PySem.F.entry_list_add (PySem.F.args_list_add_2 _ _) (PyProof.Rows.list_addW l b items items2 n n2 d1 d2 s1 s2 (by exact Y6s hz el el2)) ⟨ho,ho2,?_⟩
 obtain⟨S2,e2⟩:=S.new (t:=s.toks) (x:={ cls:=.type "list",data:=.seq (items++items2) }) (o:=.list (xs++ys)) ⟨_,⟨0,Heap.get?_push_size _ rfl⟩,by simp only[Array.toList_append];exact(rl.append rl2).push⟩
 exact⟨.ref _,_,h _ S.fresh,.ref _,S2,e2⟩
theorem Z3d{h:Heap}:∀{vs:List Value} {ts:List Str},VRs h vs (ts.map V.str)->∃l:List (Str×Tok),vs=strValues l∧l.map (·.1)=ts
 | vs,[],r=>by obtain rfl:=r.nilI;exact⟨[],rfl,rfl⟩
 | vs,t::ts,r=>by
  obtain⟨_,_,rfl,r1,r2⟩:=r.consI
  obtain⟨tk,rfl⟩:=r1.strI
  obtain⟨l,rfl,rfl⟩:=Z3d r2
  exact⟨(t,tk)::l,rfl,rfl⟩
theorem CallWP.join{x:Str} {l:Addr} {ts:List Str} {Q:pV} (hl:LstAt C σ l (ts.map V.str)) (hok:JoinOk x ts=true) (h:Q (.str (Txt.join x ts)) σ):CallWP C A (.builtin "str.join") [.str x,.ref l] σ Q X:=by
 revert C A σ X x l ts Q;k_extra "e8";intro C A σ X x l ts Q hl hok h
 intro s vs S r
 obtain⟨_,_,rfl,r1,r2⟩:=r.two
 obtain rfl:=r2.refI
 obtain⟨_,rfl⟩:=r1.strI
 obtain⟨items,il,rl⟩:=hl.raw S
 obtain⟨lt,e,et⟩:=Z3d rl
 have:items=(strValues lt).toArray:=by rw[←e]
 subst this
 exact SC.join il et hok fun _ _=>EP.pureT S h (.str _ _)
theorem Ev.dict0{pos:Pos} {Q:pV} (h:∀a,σ a=none->Q (.ref a) (σ.upd a (.sd []))):Ev C A env (.Dict [] [] pos) ρ σ Q X:=by
 intro s S F
 refine wpAny_Dict_empty ?_
 obtain⟨S2,e2⟩:=S.new (t:=s.toks) (x:={ cls:=.type "dict",data:=.dict #[] }) (o:=.sd []) ⟨[],Heap.DictOf.new _,.nil⟩
 exact⟨.ref _,_,h _ S.fresh,.ref _,S2,e2⟩
theorem Ev.dict0i{pos:Pos} {Q:pV} (h:∀a,σ a=none->Q (.ref a) (σ.upd a (.id []))):Ev C A env (.Dict [] [] pos) ρ σ Q X:=by
 intro s S F
 refine wpAny_Dict_empty ?_
 obtain⟨S2,e2⟩:=S.new (t:=s.toks) (x:={ cls:=.type "dict",data:=.dict #[] }) (o:=.id []) ⟨[],Heap.DictOf.new _,.nil⟩
 exact⟨.ref _,_,h _ S.fresh,.ref _,S2,e2⟩
noncomputable def SetWP (C:Cx) (A:Around) (o i y:V) (σ:Store) (Q:Store->Prop) (X:XP):Prop:=
 ∀s a b v,St C σ s->VR s.heap a o->VR s.heap b i->VR s.heap v y->wpAny C.M A (setItem a b v) (fun _ s'=>∃σ',Q σ'∧St C σ' s'∧Evo σ s.heap σ' s'.heap) X s
theorem Z3C(o i:Expr) (pos:Pos) (env:Env) (v:Value):assign (.Subscript o i pos) env v=(do
  let ov ←holding [v] (eval o env)
  let iv ←holding [v,ov] (eval i env)
  standAt pos
  holding [v,ov,iv] (setItem ov iv v)
  release (match i with|.Slice _ _ none _=>[iv,v,ov]|_=>[v,ov,iv]) []):=rfl
theorem Asg.sub{o i:Expr} {pos:Pos} {y:V} {Q:Rho->Store->Prop} (h:Ev C A env o ρ σ (fun x σ1=>Ev C A env i ρ σ1 (fun z σ2=>SetWP C A x z y σ2 (fun σ3=>Q ρ σ3) X) X) X):Asg C A env (.Subscript o i pos) y ρ σ Q X:=by
 revert C A env ρ σ X o i pos y Q;k_extra "e11";intro C A env ρ σ X o i pos y Q h
 intro s v S F r
 rw[Z3C]
 refine wpAny_bind (wpAny_holding (wpAny_mono (h s S F) ?_ fun _ _ z=>z))
 rintro ov s1 ⟨x,σ1,h1,r1,S1,e1⟩
 refine wpAny_bind (wpAny_holding (wpAny_mono (h1 s1 S1 (F.evo e1)) ?_ fun _ _ z=>z))
 rintro iv s2 ⟨z,σ2,h2,r2,S2,e2⟩
 refine wpAny_bind (wpAny_standAt (wpAny_bind (wpAny_holding (wpAny_mono (h2 s2 ov iv v S2 (r1.mono e2.tup) r2 ((r.mono e1.tup).mono e2.tup)) ?_ fun _ _ z=>z))))
 rintro _ s3 ⟨σ3,q,S3,e3⟩
 have e:=(e1.trans e2).trans e3
 exact PyProof.Rows.wpAny_release' ⟨ρ,σ3,q,S3,F.evo e,e.evoF F.own⟩
theorem SetWP.sd{d:Addr} {es:List (Str×V)} {k:Str} {y:V} {Q:Store->Prop} (hd:σ d=some (.sd es)) (hz:es.length≤sizeLine) (h:Q (σ.upd d (.sd (sput es k y)))):SetWP C A (.ref d) (.str k) y σ Q X:=by
 revert C A σ X d es k y Q;k_extra "e9";intro C A σ X d es k y Q hd hz h
 intro s a b v S ra rb rv
 obtain rfl:=ra.refI
 obtain⟨_,rfl⟩:=rb.strI
 obtain⟨kvs,D,pr⟩:=S.rep _ _ hd
 have hnd:(kvs.map (·.1)).Nodup:=by obtain⟨_,_,_,_,_,_,_,_,hn⟩:=D;exact hn
 refine wpAny_setItem_pairs (knd:=strKind C.prog C.w) (k:=k) (by show(k==k)=true;simp) D (fun h' D' sb=>?_) (by rw[pr.length];exact hz)
 have tk:TupKeep s.heap h':=Z6 sb (S.rep _ _ hd).notTup
 obtain⟨S2,e2⟩:=S.set (t:=s.toks+1) (o':=.sd (sput es k y)) hd sb ⟨_,D',PR.stored (rv.mono tk) (pr.mono tk) hnd⟩
 exact⟨_,h,S2,e2⟩
noncomputable def iput:List (Int×V)->Int->V->List (Int×V)
 | [],x,v=>[(x,v)]
 | (y,u)::r,x,v=>if x=y then(x,v)::r else(y,u)::iput r x v
theorem PR.storedI{h:Heap} {x:Int} {v:Value} {y:V} (r:VR h v y):∀{kvs:List (Int×Value)} {es:List (Int×V)},PR h kvs es->(kvs.map (·.1)).Nodup->PR h (PySem.stored kvs x v) (iput es x y)
 | _,_,.nil,_=>by
  show PR h (PySem.stored [] x v) [(x,y)]
  simp only[PySem.stored,List.any_nil,Bool.false_eq_true,if_false,List.nil_append]
  exact .cons r .nil
 | _,_,.cons (k:=k) a b,hn=>by
  rw[Z1u hn]
  unfold iput
  by_cases q:x=k
  ·rw[if_pos q,if_pos q];exact .cons r b
  ·rw[if_neg q,if_neg q];exact .cons a (PR.storedI r b (List.nodup_cons.mp hn).2)
theorem SetWP.id{d:Addr} {es:List (Int×V)} {k:Int} {y:V} {Q:Store->Prop} (hd:σ d=some (.id es)) (hz:es.length≤sizeLine) (h:Q (σ.upd d (.id (iput es k y)))):SetWP C A (.ref d) (.int k) y σ Q X:=by
 revert C A σ X d es k y Q;k_extra "e9";intro C A σ X d es k y Q hd hz h
 intro s a b v S ra rb rv
 obtain rfl:=ra.refI
 obtain⟨_,rfl⟩:=rb.intI
 obtain⟨kvs,D,pr⟩:=S.rep _ _ hd
 have hnd:(kvs.map (·.1)).Nodup:=by obtain⟨_,_,_,_,_,_,_,_,hn⟩:=D;exact hn
 refine wpAny_setItem_pairs (knd:=intKind C.prog C.w) (k:=k) (by show(k==k)=true;simp) D (fun h' D' sb=>?_) (by rw[pr.length];exact hz)
 have tk:TupKeep s.heap h':=Z6 sb (S.rep _ _ hd).notTup
 obtain⟨S2,e2⟩:=S.set (t:=s.toks+1) (o':=.id (iput es k y)) hd sb ⟨_,D',PR.storedI (rv.mono tk) (pr.mono tk) hnd⟩
 exact⟨_,h,S2,e2⟩
noncomputable def Zh (C:Cx):Prop:=(sysModules<C.n₀∧sysModules∉C.tabs∧¬C.loose)∨∃o,C.h₀.get? sysModules=some o
theorem St.notSys{a:Addr} {o:O} (S:St C σ s) (hn:Zh C) (h:σ a=some o):(a==sysModules)=false:=by
 revert C σ s a o;k_extra "e5";intro C σ s a o S hn h
 refine beq_eq_false_iff_ne.mpr fun q=>?_
 rcases hn with hn|⟨o',e⟩
 ·rcases (S.above a o h).2 with this|this|this
  ·rw[q]at this;exact absurd hn.1 (Nat.not_lt.mpr this)
  ·rw[q]at this;exact hn.2.1 this
  ·exact hn.2.2 this
 ·rw[←q,(S.above a o h).1]at e;cases e
theorem Zz{K:Type} [DecidableEq K] {h:Heap} {x:K} {kvs:List (K×Value)} {es:List (K×V)} (z:PR h kvs es):(valueAt kvs x).isSome=((es.find? fun p=>decide (p.1=x)).map (·.2)).isSome:=by
 induction z with
 | nil=>rfl
 | @cons k _ _ _ _ r rs ih=>
  unfold valueAt
  by_cases q:k=x
  ·subst q;simp
  ·simp only[List.find?_cons,q,decide_false]
   exact ih
theorem CmpWP.inSd{d:Addr} {es:List (Str×V)} {k:Str} {Q:pV} (hd:σ d=some (.sd es)) (hn:Zh C) (h:Q (.bool (sget es k).isSome) σ):CmpWP C A .In (.str k) (.ref d) σ Q X:=by
 intro s a b S ra rb
 obtain⟨_,rfl⟩:=ra.strI
 obtain rfl:=rb.refI
 obtain⟨kvs,D,pr⟩:=S.rep _ _ hd
 refine wpAny_in_of (knd:=strKind C.prog C.w) (k:=k) (by show(k==k)=true;simp) (S.notSys hn hd) D.mapOf (EP.pureT S ?_ (.bool _))
 rw[Zz pr];exact h
theorem CmpWP.inId{d:Addr} {es:List (Int×V)} {k:Int} {Q:pV} (hd:σ d=some (.id es)) (hn:Zh C) (h:Q (.bool (iget es k).isSome) σ):CmpWP C A .In (.int k) (.ref d) σ Q X:=by
 intro s a b S ra rb
 obtain⟨_,rfl⟩:=ra.intI
 obtain rfl:=rb.refI
 obtain⟨kvs,D,pr⟩:=S.rep _ _ hd
 refine wpAny_in_of (knd:=intKind C.prog C.w) (k:=k) (by show(k==k)=true;simp) (S.notSys hn hd) D.mapOf (EP.pureT S ?_ (.bool _))
 rw[Zz pr];exact h
theorem CmpWP.notInSd{d:Addr} {es:List (Str×V)} {k:Str} {Q:pV} (hd:σ d=some (.sd es)) (hn:Zh C) (h:Q (.bool (!(sget es k).isSome)) σ):CmpWP C A .NotIn (.str k) (.ref d) σ Q X:=by
 intro s a b S ra rb
 obtain⟨_,rfl⟩:=ra.strI
 obtain rfl:=rb.refI
 obtain⟨kvs,D,pr⟩:=S.rep _ _ hd
 refine wpAny_notIn_of (knd:=strKind C.prog C.w) (k:=k) (by show(k==k)=true;simp) (S.notSys hn hd) D.mapOf (EP.pureT S ?_ (.bool _))
 rw[Zz pr];exact h
end
section
variable {C:Cx} {A:Around} {env:Env} {ρ:Rho} {σ:Store} {X:XP} {s:Shared}
theorem Z5M{a b:String} (h:a≠b):Str.ofString a≠Str.ofString b:=by
 intro e
 rw[Str.ofString_eq_toList,Str.ofString_eq_toList]at e
 injection e with e
 have e1:a.toList.map Char.toNat=b.toList.map Char.toNat:=by
  have:=congrArg Array.toList e;simpa using this
 have inj:Function.Injective Char.toNat:=fun x y hxy=>by
  have:x.val.toNat=y.val.toNat:=hxy
  exact Char.ext (UInt32.toNat_inj.mp this)
 have e2:a.toList=b.toList:=by
  have:∀(l m:List Char),l.map Char.toNat=m.map Char.toNat->l=m:=by
   intro l
   induction l with
   | nil=>intro m hm;cases m with|nil=>rfl|cons _ _=>simp at hm
   | cons x l ih=>
    intro m hm
    cases m with
    | nil=>simp at hm
    | cons y m=>
     simp only[List.map_cons,List.cons.injEq]at hm
     rw[inj hm.1,ih m hm.2]
  exact this _ _ e1
 exact h (by rw[←String.ofList_toList (s:=a),←String.ofList_toList (s:=b),e2])
theorem CallWP.fnK{f:Addr} {name qual:Str} {params:Arguments} {body:List Stmt} {scope:Scope} {dV kV doc pm cdv ct oc:Value} {an od:Option Addr} {osl:Array (Option Value)} {names:List Str} {args:List V} {Q:pV}
  (ho:C.K.lookup f=some ⟨oc,od,.func (fnOf name qual params body scope dV kV doc pm an cdv ct),osl⟩) (hcd:codeIn C.K cdv qual=true)
  (hroom:A.depth<recursionLimit)
  (h:∀L,Exs C (A.deeper (callEnvC (fnOf name qual params body scope dV kV doc pm an cdv ct) L f)) (callEnvC (fnOf name qual params body scope dV kV doc pm an cdv ct) L f) body (names.zip args) σ (fun g _ σ'=>Q g.val σ') (fun _ _=>False))
  (hbind:∀vals:List Value,vals.length=args.length->bindArgs (fnOf name qual params body scope dV kV doc pm an cdv ct) ⟨vals,[]⟩=pure (names.zip vals)) (nd:names.Nodup)
  (hkind:(names.all fun y=>scope.names.lookup y==some .local||scope.names.lookup y==some .cell)=true) (hsc:Zc scope=true) (hco:scope.isCoroutine=false) (hgen:scope.isGenerator=false) (hk:scope.kind=.function) :
  CallWP C A (.ref f) args σ Q X:=by
 refine CallWP.fn (C.KX _ _ ho) rfl C.lim (codeRec_of C.KX hcd) rfl hbind rfl nd (fun x hx=>?_) hroom hsc hco hgen hk h
 have:=List.all_eq_true.mp hkind x hx
 rcases Bool.or_eq_true_iff.mp this with q|q
 ·exact .inl (by simpa using q)
 ·have q':scope.names.lookup x=some .cell:=by simpa using q
  exact .inr ⟨q',fun L=>cellsFrom_some _ _ _ (.inl q')⟩
end
end Mine
namespace Mine
open PySem PySem.W PySem.SeqAt PyProof.Rows
abbrev mkE(sc:Scope) (L:Addr) (cells:List (Str×Addr)) (q:Str) (fn:Option Addr) (cd:Value) (fr:Option Addr):Env:=
 { scope:=sc,locals:=L,globals:=mainGlobals,cells:=cells,qual:=q,func:=fn,code:=cd,frame:=fr,builtins:=builtinsNs }
abbrev fE(sc:Scope) (q:Str) (f:Addr) (cd:Value) (L:Addr):Env:=mkE sc L (cellsFrom (L+1) sc.names []) (q++".<locals>.") (some f) cd (some L)
noncomputable def reS (scope sc:Scope):Scope:={ scope with names:=scope.names.map fun(n,k)=>if (k==.free&&sc.kind==.function&&sc.names.lookup n==some .cell) then(n,.cell) else(n,k) }
section
variable {C:Cx} {A:Around} {ρ:Rho} {σ:Store} {X:XP} {s:Shared} {sc:Scope} {L:Addr} {cells:List (Str×Addr)} {q:Str} {fn:Option Addr} {cd:Value} {fr:Option Addr}
theorem Ev.nloc{x:Str} {pos:Pos} {v:V} {Q:pV} (hk:sc.names.lookup x=some .local) (hv:ρ.get x=some v) (h:Q v σ) (hd:(x==("__debug__":Str))=false:=by kernel_rfl):Ev C A (mkE sc L cells q fn cd fr) (.Name x pos) ρ σ Q X:=
 Ev.loc hk hv h hd
theorem Ev.ncel{x:Str} {pos:Pos} {v:V} {Q:pV} (hk:sc.names.lookup x=some .cell) (hv:ρ.get x=some v) (h:Q v σ) (hc:(cells.lookup x).isSome=true:=by kernel_rfl) (hd:(x==("__debug__":Str))=false:=by kernel_rfl):Ev C A (mkE sc L cells q fn cd fr) (.Name x pos) ρ σ Q X:=by
 obtain⟨c,hc⟩:=Option.isSome_iff_exists.mp hc
 exact Ev.cel hk hc hv h hd
theorem Ev.nglob{x:Str} {pos:Pos} {v:Value} {y:V} {Q:pV} (hk:sc.names.lookup x=some .globalImplicit) (e:nsIn C.K mainGlobals x=some (some v)) (r:VR C.h₀ v y) (h:Q y σ) (hd:(x==("__debug__":Str))=false:=by kernel_rfl) :
  Ev C A (mkE sc L cells q fn cd fr) (.Name x pos) ρ σ Q X:=Ev.glob hk e r h rfl hd
theorem Ev.nblt{x:Str} {pos:Pos} {v:Value} {y:V} {Q:pV} (hk:sc.names.lookup x=some .globalImplicit) (e:nsIn C.K mainGlobals x=some none) (hv:bootBuiltins x=some v) (r:VR C.h₀ v y) (h:Q y σ) (hn:x≠"__name__") (hd:(x==("__debug__":Str))=false:=by kernel_rfl) :
  Ev C A (mkE sc L cells q fn cd fr) (.Name x pos) ρ σ Q X:=Ev.gblt hk e hv r h hn rfl rfl hd
theorem Asg.nloc{x:Str} {pos:Pos} {y:V} {ρ':Rho} {Q:Rho->Store->Prop} (hk:sc.names.lookup x=some .local) (hp:ρ.put x y=ρ') (h:Q ρ' σ) (hc:cells.lookup x=none:=by kernel_rfl) :
  Asg C A (mkE sc L cells q fn cd fr) (.Name x pos) y ρ σ Q X:=Asg.loc hk hc hp h
theorem Asg.ncel{x:Str} {pos:Pos} {y:V} {ρ':Rho} {Q:Rho->Store->Prop} (hk:sc.names.lookup x=some .cell) (hp:ρ.put x y=ρ') (h:Q ρ' σ) (hc:(cells.lookup x).isSome=true:=by kernel_rfl) :
  Asg C A (mkE sc L cells q fn cd fr) (.Name x pos) y ρ σ Q X:=by
 obtain⟨c,hc⟩:=Option.isSome_iff_exists.mp hc
 exact Asg.cel hk hc hp h
section
variable {sc:Scope} {q:Str} {f:Addr} {cd:Value} {x:Str} {pos:Pos} {L:Addr} {C:Cx} {A:Around} {ρ:Rho} {σ:Store} {X:XP}
theorem Ev.nlocF{v:V} {Q:pV} (hk:sc.names.lookup x=some .local) (hv:ρ.get x=some v) (h:Q v σ) (hd:(x==("__debug__":Str))=false:=by kernel_rfl):Ev C A (fE sc q f cd L) (.Name x pos) ρ σ Q X:=Ev.nloc hk hv h hd
theorem Ev.ncelF{v:V} {Q:pV} (hk:sc.names.lookup x=some .cell) (hv:ρ.get x=some v) (h:Q v σ) (hc:((cellsFrom (L+1) sc.names []).lookup x).isSome=true:=by kernel_rfl) (hd:(x==("__debug__":Str))=false:=by kernel_rfl):Ev C A (fE sc q f cd L) (.Name x pos) ρ σ Q X:=Ev.ncel hk hv h hc hd
theorem Ev.nglobF{v:Value} {y:V} {Q:pV} (hk:sc.names.lookup x=some .globalImplicit) (e:nsIn C.K mainGlobals x=some (some v)) (r:VR C.h₀ v y) (h:Q y σ) (hd:(x==("__debug__":Str))=false:=by kernel_rfl):Ev C A (fE sc q f cd L) (.Name x pos) ρ σ Q X:=Ev.nglob hk e r h hd
theorem Ev.nbltF{v:Value} {y:V} {Q:pV} (hk:sc.names.lookup x=some .globalImplicit) (e:nsIn C.K mainGlobals x=some none) (hv:bootBuiltins x=some v) (r:VR C.h₀ v y) (h:Q y σ) (hn:x≠"__name__") (hd:(x==("__debug__":Str))=false:=by kernel_rfl):Ev C A (fE sc q f cd L) (.Name x pos) ρ σ Q X:=Ev.nblt hk e hv r h hn hd
theorem Asg.nlocF{y:V} {ρ':Rho} {Q:Rho->Store->Prop} (hk:sc.names.lookup x=some .local) (hp:ρ.put x y=ρ') (h:Q ρ' σ) (hc:(cellsFrom (L+1) sc.names []).lookup x=none:=by kernel_rfl):Asg C A (fE sc q f cd L) (.Name x pos) y ρ σ Q X:=Asg.nloc hk hp h hc
theorem Asg.ncelF{y:V} {ρ':Rho} {Q:Rho->Store->Prop} (hk:sc.names.lookup x=some .cell) (hp:ρ.put x y=ρ') (h:Q ρ' σ) (hc:((cellsFrom (L+1) sc.names []).lookup x).isSome=true:=by kernel_rfl):Asg C A (fE sc q f cd L) (.Name x pos) y ρ σ Q X:=Asg.ncel hk hp h hc
end
theorem Then.next{env:Env} {ss:List Stmt} {Q:pW} (h:Exs C A env ss ρ σ Q X):Then C A env ss Q X .next ρ σ:=h
theorem Then.ret{env:Env} {ss:List Stmt} {v:V} {Q:pW} (h:Q (.ret v) ρ σ):Then C A env ss Q X (.ret v) ρ σ:=h
theorem CallWP.def{f:Addr} {name qual:Str} {params:Arguments} {body:List Stmt} {scope:Scope} {dV kV doc pm cdv ct oc:Value} {an od:Option Addr} {osl:Array (Option Value)} (names:List Str) {args:List V} {Q:pV}
  (ho:C.K.lookup f=some ⟨oc,od,.func (fnOf name qual params body scope dV kV doc pm an cdv ct),osl⟩) (hcd:codeIn C.K cdv qual=true)
  (hroom:A.depth<recursionLimit)
  (hbind:∀vals:List Value,vals.length=args.length->bindArgs (fnOf name qual params body scope dV kV doc pm an cdv ct) ⟨vals,[]⟩=pure (names.zip vals)) (nd:names.Nodup)
  (hkind:(names.all fun y=>scope.names.lookup y==some .local||scope.names.lookup y==some .cell)=true) (hsc:Zc scope=true) (hco:scope.isCoroutine=false) (hgen:scope.isGenerator=false) (hk:scope.kind=.function)
  (h:∀L A',A'.handled=A.handled->A'.depth=A.depth+1->A'.units=A.units+3->Exs C A' (fE scope qual f cdv L) body (names.zip args) σ (fun g _ σ'=>Q g.val σ') (fun _ _=>False)) :
  CallWP C A (.ref f) args σ Q X:=
 CallWP.fnK ho hcd hroom (fun L=>h L _ rfl rfl rfl) hbind nd hkind hsc hco hgen hk
theorem Ev.lcomp{x:Str} {px pos:Pos} {elt iter:Expr} {ifs:List Expr} {scope:Scope} {ρc:Rho} {Q:pV} (cap:Capt ρ scope.names ρc) (hx:scope.names.lookup x=some .local) (hck:Z1d scope=true) (hk:scope.kind=.function)
  (h:Src C A (mkE sc L cells q fn cd fr) (.Name x px) iter ρ σ (fun xs ok σ1=>∀L',CmpL C A (mkE (reS scope sc) L' (clOf cells scope.names []) q none cd fr) x ifs elt ok ρc (fun out σ2=>∀a,σ2 a=Option.none->Q (.ref a) (σ2.upd a (.list out))) xs [] σ1) X)
  (hfree:(scope.names.all fun p=>p.2 != .free||(cells.lookup p.1).isSome)=true:=by kernel_rfl)
  (hs:∀x,foldedSetIterable iter (mkE sc L cells q fn cd fr) x=Pure.pure x:=by intro _;kernel_rfl):Ev C A (mkE sc L cells q fn cd fr) (.ListComp elt [⟨.Name x px,iter,ifs,0⟩] scope pos) ρ σ Q X:=
 Ev.comp hfree hck hk hx cap h hs
theorem Ex.lassign{x y:Str} {px py pos spos:Pos} {elt iter:Expr} {ifs:List Expr} {scope:Scope} {ρc:Rho} {Q:pW} (cap:Capt ρ scope.names ρc) (hx:scope.names.lookup x=some .local) (hck:Z1d scope=true) (hk:scope.kind=.function)
  (hy:sc.names.lookup y=some .local)
  (h:Src C A (mkE sc L cells q fn cd fr) (.Name x px) iter ρ σ (fun xs ok σ1=>∀L',CmpL C A (mkE (reS scope sc) L' (clOf cells scope.names []) q none cd fr) x ifs elt ok ρc (fun out σ2=>∀a,σ2 a=none->Q .next (ρ.put y (.ref a)) (σ2.upd a (.list out))) xs [] σ1) X)
  (hsw:swapsWith (.ListComp elt [⟨.Name x px,iter,ifs,0⟩] scope pos) (some (.Name y py)) spos.line (mkE sc L cells q fn cd fr)=pure true:=by kernel_rfl)
  (hfree:(scope.names.all fun p=>p.2 != .free||(cells.lookup p.1).isSome)=true:=by kernel_rfl) (hyc:cells.lookup y=none:=by kernel_rfl)
  (hs:∀x,foldedSetIterable iter (mkE sc L cells q fn cd fr) x=pure x:=by intro _;kernel_rfl):Ex C A (mkE sc L cells q fn cd fr) (.Assign [.Name y py] (.ListComp elt [⟨.Name x px,iter,ifs,0⟩] scope pos) spos) ρ σ Q X:=
 Ex.assignComp hfree hck hk hx cap hy hyc h hsw hs
theorem Ev.callR{func:Expr} {args:List Expr} {pos:Pos} {Q:pV} {env:Env} (h:Ev C A env func ρ σ (fun fx σ1=>∃f,fx=.ref f∧keepIn C.K (.ref f)=true∧Ags C A env pos args ρ σ1 (fun xs σ2=>CallWP C A (.ref f) xs σ2 Q X) X) X) (hev:eval (.Call func args [] pos) env=(do callWith pos (←eval func env) [] (backTo pos (starEach args env)) (backToKw pos (keywordEach [] env))):=by kernel_rfl) (he:(backTo pos (starEach args env)).any (·.1)=false:=by kernel_rfl):Ev C A env (.Call func args [] pos) ρ σ Q X:=by
 revert C A ρ σ X func args pos Q env;k_extra "e10";intro C A ρ σ X func args pos Q env h hev he
 intro s S F
 rw[hev]
 refine wpAny_bind (wpAny_mono (h s S F) ?_ fun _ _ z=>z)
 rintro v s1 ⟨x,σ1,⟨f,rfl,kp,q⟩,r1,S1,e1⟩
 cases r1
 exact wpAny_mono (Zi (first:=[]) (fx:=[]) (Kp.ref kp) S1 (F.evo e1) .nil q he) (fun _ _ z=>z.after e1) fun _ _ z=>z
theorem Ev.callB{func:Expr} {args:List Expr} {pos:Pos} {Q:pV} {env:Env} (h:Ev C A env func ρ σ (fun fx σ1=>∃f,(fx=.blt f∧Ags C A env pos args ρ σ1 (fun xs σ2=>CallWP C A (.builtin f) xs σ2 Q X) X)∨(fx=.typ f∧Ags C A env pos args ρ σ1 (fun xs σ2=>CallWP C A (.type f) xs σ2 Q X) X)) X) (hev:eval (.Call func args [] pos) env=(do callWith pos (←eval func env) [] (backTo pos (starEach args env)) (backToKw pos (keywordEach [] env))):=by kernel_rfl) (he:(backTo pos (starEach args env)).any (·.1)=false:=by kernel_rfl):Ev C A env (.Call func args [] pos) ρ σ Q X:=by
 revert C A ρ σ X func args pos Q env;k_extra "e10";intro C A ρ σ X func args pos Q env h hev he
 intro s S F
 rw[hev]
 refine wpAny_bind (wpAny_mono (h s S F) ?_ fun _ _ z=>z)
 rintro v s1 ⟨x,σ1,⟨f,(⟨rfl,q⟩|⟨rfl,q⟩)⟩,r1,S1,e1⟩
 ·cases r1
  exact wpAny_mono (Zi (first:=[]) (fx:=[]) Kp.blt S1 (F.evo e1) .nil q he) (fun _ _ z=>z.after e1) fun _ _ z=>z
 ·cases r1
  exact wpAny_mono (Zi (first:=[]) (fx:=[]) Kp.typ S1 (F.evo e1) .nil q he) (fun _ _ z=>z.after e1) fun _ _ z=>z
end
end Mine
namespace Mine
open PySem PySem.W
theorem CmpL.pure{C:Cx} {A:Around} {env:Env} {x:Str} {ifs:List Expr} {elt:Expr} {ok:Store->Prop} {ρ:Rho} {R:List V->Store->Prop} {σ:Store} (p:V->Bool) (f:V->V) (hok:ok σ) :
  ∀(ys out:List V),(∀y∈ys,∀Q:Bool->Store->Prop,Q (p y) σ->Ifs C A env ifs (ρ.put x y) σ Q (fun _ _=>False))->(∀y∈ys,p y=true->∀Q:pV,Q (f y) σ->Ev C A env elt (ρ.put x y) σ Q (fun _ _=>False))->
  out.length+ys.length≤sizeLine->R (out++(ys.filter p).map f) σ->CmpL C A env x ifs elt ok ρ R ys out σ
 | [],out,_,_,_,h=>by simpa [CmpL] using h
 | y::ys,out,h1,h2,hz,h=>by
  unfold CmpL
  refine h1 y (.head _) _ ?_
  simp only[List.length_cons]at hz
  cases q:p y with
  | true=>
   simp only[if_true]
   refine h2 y (.head _) q _ ⟨by exact Y6o hz,hok,?_⟩
   refine CmpL.pure p f hok ys (out++[f y]) (fun z hz=>h1 z (.tail _ hz)) (fun z hz=>h2 z (.tail _ hz)) (by simp;exact Y5t hz) ?_
   simpa [List.filter_cons,q] using h
  | false=>
   simp only[Bool.false_eq_true,if_false]
   refine⟨hok,CmpL.pure p f hok ys out (fun z hz=>h1 z (.tail _ hz)) (fun z hz=>h2 z (.tail _ hz)) (by exact Y6p hz) ?_⟩
   simpa [List.filter_cons,q] using h
theorem Ifs.nil{C:Cx} {A:Around} {env:Env} {ρ:Rho} {σ:Store} {X:XP} {Q:Bool->Store->Prop} (h:Q true σ):Ifs C A env [] ρ σ Q X:=h
theorem Ifs.one{C:Cx} {A:Around} {env:Env} {ρ:Rho} {σ:Store} {X:XP} {c:Expr} {Q:Bool->Store->Prop} (h:Tst C A env c ρ σ Q X):Ifs C A env [c] ρ σ Q X:=h
end Mine
namespace Mine
open PySem PySem.W PySem.SeqAt PyProof.Rows
section
variable {C:Cx} {A:Around} {σ:Store} {X:XP}
theorem lenS{α:Type} {n:Nat} {l:List α} (h:l.length=n+1):∃a t,l=a::t∧t.length=n:=by
 cases l with
 | nil=>cases h
 | cons a t=>exact⟨a,t,rfl,Nat.succ.inj h⟩
theorem CallWP.def1(x1:Str) {f:Addr} {name qual:Str} {params:Arguments} {body:List Stmt} {scope:Scope} {dV kV doc pm cdv ct oc:Value} {an od:Option Addr} {osl:Array (Option Value)} {v1:V} {Q:pV}
  (ho:C.K.lookup f=some ⟨oc,od,.func (fnOf name qual params body scope dV kV doc pm an cdv ct),osl⟩) (hcd:codeIn C.K cdv qual=true) (hroom:A.depth<recursionLimit)
  (hbind:∀u1:Value,bindArgs (fnOf name qual params body scope dV kV doc pm an cdv ct) ⟨[u1],[]⟩=pure [(x1,u1)]) (nd:([x1]:List Str).Nodup)
  (hkind:(([x1]:List Str).all fun y=>scope.names.lookup y==some .local||scope.names.lookup y==some .cell)=true) (hsc:Zc scope=true) (hco:scope.isCoroutine=false) (hgen:scope.isGenerator=false) (hk:scope.kind=.function)
  (h:∀L A',A'.handled=A.handled->A'.depth=A.depth+1->A'.units=A.units+3->Exs C A' (fE scope qual f cdv L) body [(x1,v1)] σ (fun g _ σ'=>Q g.val σ') (fun _ _=>False)) :
  CallWP C A (.ref f) [v1] σ Q X:=
 CallWP.def [x1] (args:=[v1]) ho hcd hroom (fun vals hl=>by obtain⟨u1,t1,rfl,h1⟩:=lenS hl;obtain rfl:=List.eq_nil_of_length_eq_zero h1;exact hbind u1) nd hkind hsc hco hgen hk h
theorem CallWP.def2(x1 x2:Str) {f:Addr} {name qual:Str} {params:Arguments} {body:List Stmt} {scope:Scope} {dV kV doc pm cdv ct oc:Value} {an od:Option Addr} {osl:Array (Option Value)} {v1 v2:V} {Q:pV}
  (ho:C.K.lookup f=some ⟨oc,od,.func (fnOf name qual params body scope dV kV doc pm an cdv ct),osl⟩) (hcd:codeIn C.K cdv qual=true) (hroom:A.depth<recursionLimit)
  (hbind:∀u1 u2:Value,bindArgs (fnOf name qual params body scope dV kV doc pm an cdv ct) ⟨[u1,u2],[]⟩=pure [(x1,u1),(x2,u2)]) (nd:([x1,x2]:List Str).Nodup)
  (hkind:(([x1,x2]:List Str).all fun y=>scope.names.lookup y==some .local||scope.names.lookup y==some .cell)=true) (hsc:Zc scope=true) (hco:scope.isCoroutine=false) (hgen:scope.isGenerator=false) (hk:scope.kind=.function)
  (h:∀L A',A'.handled=A.handled->A'.depth=A.depth+1->A'.units=A.units+3->Exs C A' (fE scope qual f cdv L) body [(x1,v1),(x2,v2)] σ (fun g _ σ'=>Q g.val σ') (fun _ _=>False)) :
  CallWP C A (.ref f) [v1,v2] σ Q X:=
 CallWP.def [x1,x2] (args:=[v1,v2]) ho hcd hroom (fun vals hl=>by obtain⟨u1,t1,rfl,h1⟩:=lenS hl;obtain⟨u2,t2,rfl,h2⟩:=lenS h1;obtain rfl:=List.eq_nil_of_length_eq_zero h2;exact hbind u1 u2) nd hkind hsc hco hgen hk h
theorem CallWP.def3(x1 x2 x3:Str) {f:Addr} {name qual:Str} {params:Arguments} {body:List Stmt} {scope:Scope} {dV kV doc pm cdv ct oc:Value} {an od:Option Addr} {osl:Array (Option Value)} {v1 v2 v3:V} {Q:pV}
  (ho:C.K.lookup f=some ⟨oc,od,.func (fnOf name qual params body scope dV kV doc pm an cdv ct),osl⟩) (hcd:codeIn C.K cdv qual=true) (hroom:A.depth<recursionLimit)
  (hbind:∀u1 u2 u3:Value,bindArgs (fnOf name qual params body scope dV kV doc pm an cdv ct) ⟨[u1,u2,u3],[]⟩=pure [(x1,u1),(x2,u2),(x3,u3)]) (nd:([x1,x2,x3]:List Str).Nodup)
  (hkind:(([x1,x2,x3]:List Str).all fun y=>scope.names.lookup y==some .local||scope.names.lookup y==some .cell)=true) (hsc:Zc scope=true) (hco:scope.isCoroutine=false) (hgen:scope.isGenerator=false) (hk:scope.kind=.function)
  (h:∀L A',A'.handled=A.handled->A'.depth=A.depth+1->A'.units=A.units+3->Exs C A' (fE scope qual f cdv L) body [(x1,v1),(x2,v2),(x3,v3)] σ (fun g _ σ'=>Q g.val σ') (fun _ _=>False)) :
  CallWP C A (.ref f) [v1,v2,v3] σ Q X:=
 CallWP.def [x1,x2,x3] (args:=[v1,v2,v3]) ho hcd hroom (fun vals hl=>by obtain⟨u1,t1,rfl,h1⟩:=lenS hl;obtain⟨u2,t2,rfl,h2⟩:=lenS h1;obtain⟨u3,t3,rfl,h3⟩:=lenS h2;obtain rfl:=List.eq_nil_of_length_eq_zero h3;exact hbind u1 u2 u3) nd hkind hsc hco hgen hk h
theorem CallWP.def4(x1 x2 x3 x4:Str) {f:Addr} {name qual:Str} {params:Arguments} {body:List Stmt} {scope:Scope} {dV kV doc pm cdv ct oc:Value} {an od:Option Addr} {osl:Array (Option Value)} {v1 v2 v3 v4:V} {Q:pV}
  (ho:C.K.lookup f=some ⟨oc,od,.func (fnOf name qual params body scope dV kV doc pm an cdv ct),osl⟩) (hcd:codeIn C.K cdv qual=true) (hroom:A.depth<recursionLimit)
  (hbind:∀u1 u2 u3 u4:Value,bindArgs (fnOf name qual params body scope dV kV doc pm an cdv ct) ⟨[u1,u2,u3,u4],[]⟩=pure [(x1,u1),(x2,u2),(x3,u3),(x4,u4)]) (nd:([x1,x2,x3,x4]:List Str).Nodup)
  (hkind:(([x1,x2,x3,x4]:List Str).all fun y=>scope.names.lookup y==some .local||scope.names.lookup y==some .cell)=true) (hsc:Zc scope=true) (hco:scope.isCoroutine=false) (hgen:scope.isGenerator=false) (hk:scope.kind=.function)
  (h:∀L A',A'.handled=A.handled->A'.depth=A.depth+1->A'.units=A.units+3->Exs C A' (fE scope qual f cdv L) body [(x1,v1),(x2,v2),(x3,v3),(x4,v4)] σ (fun g _ σ'=>Q g.val σ') (fun _ _=>False)) :
  CallWP C A (.ref f) [v1,v2,v3,v4] σ Q X:=
 CallWP.def [x1,x2,x3,x4] (args:=[v1,v2,v3,v4]) ho hcd hroom (fun vals hl=>by obtain⟨u1,t1,rfl,h1⟩:=lenS hl;obtain⟨u2,t2,rfl,h2⟩:=lenS h1;obtain⟨u3,t3,rfl,h3⟩:=lenS h2;obtain⟨u4,t4,rfl,h4⟩:=lenS h3;obtain rfl:=List.eq_nil_of_length_eq_zero h4;exact hbind u1 u2 u3 u4) nd hkind hsc hco hgen hk h
end
end Mine
namespace Mine
open PySem PySem.W PySem.SeqAt PyProof.Rows
theorem Rho.gp_hit{x:Str} {v:V} {r:Rho}:Rho.get (Rho.put r x v) x=some v:=by rw[Rho.get_put];simp
theorem Rho.gp_miss{x y:Str} {v:V} {u:Option V} {r:Rho} (h:y≠x) (k:Rho.get r y=u):Rho.get (Rho.put r x v) y=u:=by rw[Rho.get_put,if_neg h,k]
set_option tactic.hygienic true in
theorem Z3Z{K:Type} [DecidableEq K] (acc:List (K×Value)) (k:K) (v:Value) (n:(acc.map (·.1)).Nodup):((stored acc k v).map (·.1)).Nodup:=by
 unfold stored
 split
 ·have:(acc.map fun kv=>if kv.1=k then(kv.1,v) else kv).map (·.1)=acc.map (·.1):=by
   rw[List.map_map];apply List.map_congr_left;intro a _;simp only[Function.comp];split<;>rfl
  rw[this];exact n
 ·rename_i q
  rw[List.map_append,List.nodup_append]
  refine⟨n,by simp,?_⟩
  intro a ha b hb e
  simp only[List.map_cons,List.map_nil,List.mem_singleton]at hb
  obtain⟨p,hp,rfl⟩:=List.mem_map.mp ha
  exact q (List.any_eq_true.mpr ⟨p,hp,by simpa using e.trans hb⟩)
section
variable {C:Cx} {A:Around} {env:Env} {ρ:Rho} {σ:Store} {X:XP} {s:Shared}
inductive KVR(h:Heap):List (Value×Value)->List (Str×V)->Prop
 | nil:KVR h [] []
 | cons {k:Str} {t:Tok} {v:Value} {x:V} {r:List (Value×Value)} {r':List (Str×V)}:VR h v x->KVR h r r'->KVR h ((.str k t,v)::r) ((k,x)::r')
noncomputable def Prs (C:Cx) (A:Around) (env:Env) (pos:Pos) (ks:List (Option Expr)) (vs:List Expr) (ρ:Rho) (σ:Store) (Q:List (Str×V)->Store->Prop) (X:XP):Prop:=
 ∀s,St C σ s->Fm C σ s.heap env ρ->wpAny C.M A (evalPairs (pairTrees ks vs env pos)) (fun r s'=>∃xs σ',Q xs σ'∧KVR s'.heap r xs∧St C σ' s'∧Evo σ s.heap σ' s'.heap) X s
theorem Prs.nil{pos:Pos} {Q:List (Str×V)->Store->Prop} (h:Q [] σ):Prs C A env pos [] [] ρ σ Q X:=
 fun s S F=>pairTrees_nil_walk ⟨[],σ,h,.nil,S,.refl ..⟩
theorem KVR.merged(C:Cx) {h:Heap}:∀{r:List (Value×Value)} {xs:List (Str×V)},KVR h r xs->∃kvs:List (Str×Value),Carries (strKind C.prog C.w) r kvs∧kvs.length=xs.length∧
  ∀acc es,PR h acc es->(acc.map (·.1)).Nodup->PR h (PySem.merged acc kvs) (xs.foldl (fun e p=>sput e p.1 p.2) es)
 | _,_,.nil=>⟨[],trivial,rfl,fun acc es p _=>p⟩
 | _,_,.cons (k:=k) (t:=t) (v:=v) a b=>by
  obtain⟨kvs,c,l,m⟩:=KVR.merged C b
  refine⟨(k,v)::kvs,⟨by show(k==k)=true;simp,rfl,c⟩,by simp[l],fun acc es p n=>?_⟩
  have:=m (stored acc k v) _ (PR.stored a p n) (Z3Z _ _ _ n)
  simpa [PySem.merged] using this
theorem Prs.cons{pos cp:Pos} {k:Str} {lit:Const} {kn:Nat} {v:Expr} {ks:List (Option Expr)} {vs:List Expr} {Q:List (Str×V)->Store->Prop} (h:Ev C A env (.Constant lit kn cp) ρ σ (fun x σ0=>x=.str k∧Ev C A env v ρ σ0 (fun y σ1=>Prs C A env pos ks vs ρ σ1 (fun xs σ2=>Q ((k,y)::xs) σ2) X) X) X) :
  Prs C A env pos (some (.Constant lit kn cp)::ks) (v::vs) ρ σ Q X:=by
 revert C A env ρ σ X pos cp k lit kn v ks vs Q;k_extra "e15";intro C A env ρ σ X pos cp k lit kn v ks vs Q h
 intro s S F
 refine pairTrees_cons_walk (wpAny_mono (h s S F) ?_ fun _ _ z=>z)
 rintro w0 s0 ⟨x0,σ0,⟨rfl,h0⟩,r0,S0,e0⟩
 refine wpAny_mono (h0 s0 S0 (F.evo e0)) ?_ fun _ _ z=>z
 rintro w1 s1 ⟨x1,σ1,h1,r1,S1,e1⟩
 refine wpAny_mono (h1 s1 S1 ((F.evo e0).evo e1)) ?_ fun _ _ z=>z
 rintro r s2 ⟨xs,σ2,h2,r2,S2,e2⟩
 cases r0
 exact⟨_,σ2,h2,.cons (r1.mono e2.tup) r2,S2,(e0.trans e1).trans e2⟩
theorem Prs.str{pos cp:Pos} {k:Str} {kn:Nat} {v:Expr} {ks:List (Option Expr)} {vs:List Expr} {Q:List (Str×V)->Store->Prop}
  (h:Ev C A env v ρ σ (fun y σ1=>Prs C A env pos ks vs ρ σ1 (fun xs σ2=>Q ((k,y)::xs) σ2) X) X):Prs C A env pos (some (.Constant (.str k) kn cp)::ks) (v::vs) ρ σ Q X:=
 Prs.cons (Ev.cstr ⟨rfl,h⟩)
theorem Ev.dictS{pos:Pos} {ks:List (Option Expr)} {vs:List Expr} {Q:pV} (hall:ks.all (·.isSome)=true) (hl:ks.length=vs.length) (h0:ks≠[]) (hlen:ks.length≤15) (h:∀a,σ a=none->Prs C A env pos ks vs ρ (σ.upd a (.sd [])) (fun es σ1=>σ1 a=some (.sd [])∧Q (.ref a) (σ1.upd a (.sd (es.foldl (fun e p=>sput e p.1 p.2) [])))) X) :
  Ev C A env (.Dict ks vs pos) ρ σ Q X:=by
 revert C A env ρ σ X pos ks vs Q;k_extra "e10";intro C A env ρ σ X pos ks vs Q hall hl h0 hlen h
 intro s S F
 obtain⟨S2,e2⟩:=S.new (t:=s.toks) (x:={ cls:=.type "dict",data:=.dict #[] }) (o:=.sd []) ⟨[],Heap.DictOf.new _,.nil⟩
 refine wpAny_Dict_walk (knd:=strKind C.prog C.w) hall hl h0 hlen (wpAny_mono (h _ S.fresh _ S2 (F.evo e2)) ?_ fun _ _ z=>z)
 rintro r s3 ⟨xs,σ3,⟨h3,q⟩,r3,S3,e3⟩
 obtain⟨kvs,c,l,m⟩:=KVR.merged C r3
 obtain⟨kv0,D,p0⟩:=S3.rep _ _ h3
 cases p0
 refine⟨kvs,c,D,fun h' D' sb=>?_⟩
 have tk:TupKeep s3.heap h':=Z6 sb (S3.rep _ _ h3).notTup
 obtain⟨S4,e4⟩:=S3.set (t:=s3.toks+r.length) (o':=.sd (xs.foldl (fun e p=>sput e p.1 p.2) [])) h3 sb ⟨_,D',(m [] [] .nil List.nodup_nil).mono tk⟩
 exact⟨.ref _,_,q,.ref _,S4,(e2.trans e3).trans e4⟩
theorem CallWP.pop{l:Addr} {xs:List V} {y:V} {Q:pV} (hl:σ l=some (.list (xs++[y]))) (hz:xs.length<sizeLine) (h:Q y (σ.upd l (.list xs))):CallWP C A (.builtin "list.pop") [.ref l] σ Q X:=by
 revert C A σ X l xs y Q;k_extra "e8";intro C A σ X l xs y Q hl hz h
 intro s vs S r
 obtain⟨_,rfl,r1⟩:=r.one
 obtain rfl:=r1.refI
 obtain⟨items,⟨n,e⟩,rl⟩:=S.rep _ _ hl
 have el:=rl.length
 simp only[Array.length_toList,List.length_append,List.length_singleton]at el
 have hj:(xs++[y])[xs.length]?=some y:=by simp
 obtain⟨u,hu,ru⟩:=rl.get hj
 have hu':items[items.size - 1]?=some u:=by rw[el];simpa using hu
 refine call_meets F.slot_list_pop ⟨_,e,rfl⟩ F.entry_list_pop (F.args_list_pop_1 _) (MeetsSeq.list_pop_last l items n u hu' (by exact Y5U hz el)) ⟨e,?_⟩
 obtain⟨S',e'⟩:=Z1C (f:=fun x=>x.eraseIdxIfInBounds (items.size - 1)) S hl e (ys:=xs) (by
  have hj':items.size-1<items.size:=by exact Y5V el
  have:(items.eraseIdxIfInBounds (items.size-1)).toList=items.toList.eraseIdx (items.size-1):=by
   simp[Array.eraseIdxIfInBounds,hj',Array.toList_eraseIdx]
  rw[this,el]
  have:=rl.erase xs.length
  have e2:(xs++[y]).eraseIdx xs.length=xs:=by rw[List.eraseIdx_append_of_length_le (Nat.le_refl _)];simp
  rw[e2]at this;simpa using this)
 exact⟨y,_,h,ru.mono e'.tup,S',e'⟩
theorem Z3e{h':Heap} {o:Obj} (hk:∀b x,b∉[s.heap.objs.size]->(s.heap.push o).get? b=some x->h'.get? b=some x):∀b x,s.heap.get? b=some x->h'.get? b=some x:=
 fun b x e=>hk b x (fun hm=>by rw[List.mem_singleton.mp hm]at e;exact Nat.lt_irrefl _ (Heap.lt_size e)) (Heap.get?_push_of_some _ e)
theorem Z40{h:Heap} {vs:List Value} {bs:List Bool} {i:Nat} {v:Value} (r:VRs h vs (bs.map V.bool)) (e:vs[i]?=some v):∃b,bs[i]?=some b∧v=.bool b:=by
 revert h vs bs i v;k_extra "e5";intro h vs bs i v r e
 have hl:=r.length
 have:i<vs.length:=(List.getElem?_eq_some_iff.mp e).1
 have hb:i<bs.length:=by simpa [hl] using this
 obtain⟨u,hu,ru⟩:=r.get (show(bs.map V.bool)[i]?=some (V.bool bs[i]) by simp[hb])
 rw[hu]at e;cases e
 cases ru
 exact⟨bs[i],by simp[hb],rfl⟩
theorem CallWP.all{l:Addr} {bs:List Bool} {Q:pV} (hh:A.handled=none) (hl:LstAt C σ l (bs.map V.bool)) (h:Q (.bool (bs.all id)) σ):CallWP C A (.builtin "all") [.ref l] σ Q X:=by
 revert C A σ X l bs Q;k_extra "e7";intro C A σ X l bs Q hh hl h
 intro s vs S r
 obtain⟨_,rfl,r1⟩:=r.one
 obtain rfl:=r1.refI
 obtain⟨items,il,rl⟩:=hl.raw S
 have el:=rl.length
 simp only[Array.length_toList,List.length_map]at el
 have hlt:l<s.heap.objs.size:=by obtain⟨_,e,_⟩:=il;exact Heap.lt_size e
 refine call_all_walk (wpAny_pyIter_list il ?_)
 refine⟨s.heap.objs.size,[s.heap.objs.size,l],[s.heap.objs.size],items.size,_,_,fun i=>(bs[i]?).getD true,rfl,Walks.list (A:=A.in1) hh _ l (Nat.ne_of_lt hlt) items,
  ⟨⟨_,Heap.get?_push_size _ rfl,rfl,rfl⟩,il.push _⟩,fun i v s' Q' E' hP hQ=>?_,fun h' tk hk=>?_⟩
 ·obtain⟨b,e,rfl⟩:=Z40 rl (by simpa using hP)
  simp only[e,Option.getD_some]at hQ
  exact wpAny_truthy_bool hQ
 ·have e:((List.range items.size).all fun i=>(bs[i]?).getD true)=bs.all id:=by
   rw[el];exact PyProof.Rows.LSm.range_all bs
  rw[e]
  exact⟨_,σ,h,.bool _,S.ext (Z3e hk),.ext (Z3e hk)⟩
theorem Z4J{n:Nat} (h:Nat.ble n sizeLine=true):n≤sizeLine:=Nat.le_of_ble_eq_true h
theorem Szs.mk{xs:List V} {P:Prop} (h:xs.length≤sizeLine) (k:P):xs.length≤sizeLine∧P:=⟨h,k⟩
theorem Br.t{b:Bool} {p q:Prop} (hb:b=true) (h:p):if b=true then p else q:=by rw[if_pos hb];exact h
theorem Br.f{b:Bool} {p q:Prop} (hb:b=false) (h:q):if b=true then p else q:=by rw[if_neg (by simp[hb])];exact h
theorem ItemWP.tup0{x:V} {xs:List V} {Q:pV} (h:Q x σ):ItemWP C A (.tup (x::xs)) (.int 0) σ Q X:=
 ItemWP.tup (j:=0) (by decide) (by decide) (by rw[seqIndex_of (by exact Y5W) (by simp)];rfl) rfl h
theorem ItemWP.tup1{x y:V} {xs:List V} {Q:pV} (h:Q x σ):ItemWP C A (.tup (y::x::xs)) (.int 1) σ Q X:=
 ItemWP.tup (j:=1) (by decide) (by decide) (by rw[seqIndex_of (by exact Y5X) (by simp;exact Y5Y)];rfl) rfl h
theorem ItemWP.tup2{x y z:V} {xs:List V} {Q:pV} (h:Q x σ):ItemWP C A (.tup (y::z::x::xs)) (.int 2) σ Q X:=
 ItemWP.tup (j:=2) (by decide) (by decide) (by rw[seqIndex_of (by exact Y5Z) (by simp;exact Y60)];rfl) rfl h
theorem ItemWP.tup3{x y z u:V} {xs:List V} {Q:pV} (h:Q x σ):ItemWP C A (.tup (y::z::u::x::xs)) (.int 3) σ Q X:=
 ItemWP.tup (j:=3) (by decide) (by decide) (by rw[seqIndex_of (by exact Y61) (by simp;exact Y62)];rfl) rfl h
theorem ItemWP.tup4{x y z u w:V} {xs:List V} {Q:pV} (h:Q x σ):ItemWP C A (.tup (y::z::u::w::x::xs)) (.int 4) σ Q X:=
 ItemWP.tup (j:=4) (by decide) (by decide) (by rw[seqIndex_of (by exact Y63) (by simp;exact Y64)];rfl) rfl h
theorem ItemWP.last{l:Addr} {xs:List V} {y:V} {Q:pV} (hl:LstAt C σ l (xs++[y])) (h:Q y σ):ItemWP C A (.ref l) (.int (-1)) σ Q X:=
 ItemWP.listNeg hl (by decide) (by simp;exact Y65) (by decide) (by
  have:((-1:Int)+((xs++[y]).length:Int)).toNat=xs.length:=by simp;exact Y66
  rw[this];simp) h
end
noncomputable def Grow (σ σ':Store):Prop:=∀b o,σ b=some o->σ' b=some o
theorem Grow.rfl'{σ:Store}:Grow σ σ:=fun _ _ e=>e
theorem Grow.trans{σ1 σ2 σ3:Store} (a:Grow σ1 σ2) (b:Grow σ2 σ3):Grow σ1 σ3:=fun x o e=>b x o (a x o e)
theorem Store.hit{σ:Store} {a:Addr} {o:O}:(σ.upd a o) a=some o:=by simp[Store.upd]
theorem Store.miss{σ:Store} {a b:Addr} {o:O} {r:Option O} (h:b≠a) (k:σ b=r):(σ.upd a o) b=r:=by simp[Store.upd,h,k]
theorem Store.at_fresh{σ:Store} {a b:Addr} {o o':O} (h:σ a=none) (k:σ b=some o'):(σ.upd a o) b=some o':=Store.miss (fun e=>by rw[e,h]at k;cases k) k
theorem Grow.fresh{σ σ':Store} {a:Addr} {o:O} (g:Grow σ σ') (h:σ' a=none):Grow σ (σ'.upd a o):=fun b o' e=>Store.at_fresh h (g b o' e)
theorem Grow.upd{σ σ':Store} {a:Addr} {o:O} (g:Grow σ σ') (h:σ a=none):Grow σ (σ'.upd a o):=fun b o' e=>Store.miss (fun q=>by rw[q,h]at e;cases e) (g b o' e)
theorem Grow.none{σ σ':Store} {a:Addr} (g:Grow σ σ') (h:σ' a=none):σ a=none:=by
 cases q:σ a with
 | none=>rfl
 | some o=>rw[g a o q]at h;cases h
section
variable {C:Cx} {A:Around} {env:Env} {ρ:Rho} {σ:Store} {X:XP} {s:Shared}
theorem Asg.mono{t:Expr} {x:V} {Q Q':Rho->Store->Prop} (h:Asg C A env t x ρ σ Q X) (k:∀ρ σ,Q ρ σ->Q' ρ σ):Asg C A env t x ρ σ Q' X:=by
 intro s v S F r
 refine wpAny_mono (h s v S F r) ?_ fun _ _ z=>z
 rintro _ s1 ⟨ρ1,σ1,q,rest⟩
 exact⟨ρ1,σ1,k _ _ q,rest⟩
theorem TyGo.mk{x:V} {T:String} {P:Prop} (h:TyV C σ x T) (k:P):TyV C σ x T∧P:=⟨h,k⟩
theorem Eqs.mk{x y:V} {P:Prop} (h:x=y) (k:P):x=y∧P:=⟨h,k⟩
theorem LstAt.st{l:Addr} {xs:List V} (h:σ l=some (.list xs)):LstAt C σ l xs:=.inl h
noncomputable def LpQ (ok:Store->Prop) (J:Rho->Store->Prop) (Q:pW) (g:FV) (ρ:Rho) (σ:Store):Prop:=
 match g with
 | .next|.cont=>ok σ∧J ρ σ
 | .brk=>Q .next ρ σ
 | .ret v=>Q (.ret v) ρ σ
theorem ForL.inv{α:Type} {target:Expr} {body:List Stmt} {ok:Store->Prop} {Q:pW} (enc:α->V) (I:List α->Rho->Store->Prop)
  (step:∀x xs ρ σ,I (x::xs) ρ σ->Asg C A env target (enc x) ρ σ (fun ρ1 σ1=>Exs C A env body ρ1 σ1 (LpQ ok (I xs) Q) (fun _ _=>False)) (fun _ _=>False))
  (done:∀ρ σ,I [] ρ σ->Q .next ρ σ):∀xs ρ σ,I xs ρ σ->ForL C A env target body ok Q (xs.map enc) ρ σ
 | [],ρ,σ,h=>done ρ σ h
 | x::xs,ρ,σ,h=>by
  refine(step x xs ρ σ h).mono fun ρ1 σ1 h1=>h1.mono fun g ρ2 σ2 h2=>?_
  cases g with
  | next=>exact⟨h2.1,ForL.inv enc I step done xs ρ2 σ2 h2.2⟩
  | cont=>exact⟨h2.1,ForL.inv enc I step done xs ρ2 σ2 h2.2⟩
  | brk=>exact h2
  | ret v=>exact h2
theorem Ev.mono'{e:Expr} {Q Q':pV} (h:Ev C A env e ρ σ Q X) (k:∀x σ,Q x σ->Q' x σ):Ev C A env e ρ σ Q' X:=by
 intro s S F
 refine wpAny_mono (h s S F) ?_ fun _ _ z=>z
 rintro _ s1 ⟨x,σ1,q,r1,r2,r3⟩
 exact⟨x,σ1,k _ _ q,r1,r2,r3⟩
theorem CmpL.inv{α:Type} {x:Str} {elt:Expr} {ok:Store->Prop} {R:List V->Store->Prop} (enc:α->V) (I:List α->List V->Store->Prop)
  (step:∀y ys out σ,I (y::ys) out σ->Ev C A env elt (ρ.put x (enc y)) σ (fun z σ2=>out.length≤sizeLine∧ok σ2∧I ys (out++[z]) σ2) (fun _ _=>False))
  (done:∀out σ,I [] out σ->R out σ):∀ys out σ,I ys out σ->CmpL C A env x [] elt ok ρ R (ys.map enc) out σ
 | [],out,σ,h=>done out σ h
 | y::ys,out,σ,h=>by
  unfold CmpL
  exact Ifs.nil ((step y ys out σ h).mono' fun z σ2 h2=>⟨h2.1,h2.2.1,CmpL.inv enc I step done ys _ σ2 h2.2.2⟩)
end
end Mine
namespace Mine
open PySem PySem.W PySem.SeqAt PyProof.Rows
theorem Z2e{x:Str}:PySem.PyData.strOk x=true↔∀c∈x.cps.toList,c<0x110000:=by
 unfold PySem.PyData.strOk
 rw[Array.all_eq_true_iff_forall_mem]
 simp
theorem Z0(s:String):PySem.PyData.strOk (Str.ofString s)=true:=by
 rw[Z2e]
 intro c hc
 rw[Str.ofString_eq_toList]at hc
 simp only[List.mem_map,List.toList_toArray]at hc
 obtain⟨d,_,rfl⟩:=hc
 have:=d.valid
 simp only[UInt32.isValidChar,Nat.isValidChar]at this
 simp only[Char.toNat]
 exact Y67 this
theorem Z41{ts:List Str} {B:Nat} (hB:∀y∈ts,y.length≤B) (h:ts.length*B≤16777216):JoinOk Str.empty ts=true:=by
 unfold JoinOk
 rw[StrLaws.joinFits hB (by have:Str.empty.length=0:=rfl;rw[this];exact Y68 h)];rfl
end Mine
namespace Mine
open PySem PySem.W PySem.SeqAt PyProof.Rows
section
variable {C:Cx} {A:Around} {σ:Store} {X:XP}
theorem Z4K{x:Str} {v:V} {r:List (Str×V)}:sget ((x,v)::r) x=some v:=by simp[sget]
theorem Z42{x y:Str} {u:V} {v:Option V} {r:List (Str×V)} (h:x≠y) (k:sget r x=v):sget ((y,u)::r) x=v:=by
 subst k;have h':¬y=x:=fun e=>h e.symm
 simp[sget,h']
theorem CallWP.range1{n:Int} {Q:pV} (h:Q (.rng 0 n) σ):CallWP C A (.type "range") [.int n] σ Q X:=by
 intro s vs S r
 obtain⟨_,rfl,r1⟩:=r.one
 obtain⟨_,rfl⟩:=r1.intI
 exact call_range_1 ⟨.rng 0 n,σ,h,.rng (IsRange.new _ _ _ _ _ _ _),S.push,.push⟩
theorem Z2A{a b:Int} (h1:-(2 ^ 64)<a) (h2:a<2 ^ 64):IntMulOk a b:=IntMulOk.of_left (intBits_le_64 h1 h2)
theorem Z2B{a b:Int} (h1:-(2 ^ 64)<b) (h2:b<2 ^ 64):IntMulOk a b:=IntMulOk.of_right (intBits_le_64 h1 h2)
end
end Mine
namespace Mine
open PySem PySem.W PySem.SeqAt PyProof.Rows
section
variable {C:Cx} {A:Around} {σ:Store} {X:XP}
theorem DRs.map{α:Type} {f:α->V} {g:α->PyData}:∀{xs:List α},(∀x∈xs,DR C σ (f x) (g x))->DRs C σ (xs.map f) (xs.map g)
 | [],_=>.nil
 | x::xs,h=>.cons (h x (.head _)) (DRs.map fun y hy=>h y (.tail _ hy))
theorem Z5{α:Type} {g:α->PyData}:∀{xs:List α},(∀x∈xs,(g x).canLay0=true)->PyData.canLayAll0 (xs.map g)=true
 | [],_=>by simp[PyData.canLayAll0]
 | x::xs,h=>by simp[PyData.canLayAll0,h x (.head _),Z5 fun y hy=>h y (.tail _ hy)]
theorem ZL{α:Type} {g:α->PyData} {k:Nat}:∀{xs:List α},(∀x∈xs,(g x).depth≤k)->PyData.depthAll (xs.map g)≤k
 | [],_=>by simp[PyData.depthAll]
 | x::xs,h=>by
  have h1:=h x (.head _)
  have h2:=ZL (xs:=xs) fun y hy=>h y (.tail _ hy)
  simp only[List.map_cons,PyData.depthAll];exact Y6m h1 h2
theorem CmpWP.eqSame{x y:V} {d:PyData} {Q:pV} (hx:DR C σ x d) (hy:DR C σ y d) (h1:d.canLay0=true) (hu:A.units+d.depth<cLine) (h:Q (.bool true) σ):CmpWP C A .Eq x y σ Q X:=
 CmpWP.eq hx hy h1 h1 (by exact Y6n hu) (by rw[eqv_refl d h1];exact h)
theorem CmpWP.neSame{x y:V} {d:PyData} {Q:pV} (hx:DR C σ x d) (hy:DR C σ y d) (h1:d.canLay0=true) (hu:A.units+d.depth<cLine) (h:Q (.bool false) σ):CmpWP C A .NotEq x y σ Q X:=
 CmpWP.ne hx hy h1 h1 (by exact Y6n hu) (by rw[eqv_refl d h1];exact h)
theorem Z3D{x:V} {t:Ty} {U:String} {Q:pV} (ht:HasTy C σ x t) (hU:(U="int" ∨U="bool" ∨U="str" ∨U="list" ∨U="tuple")) {b:Bool} (hb:isiB t U=b) (h:Q (.bool b) σ):CallWP C A (.builtin "isinstance") [x,.typ U] σ Q X:=
 CallWP.isi ht hU (by rw[hb];exact h)
end
end Mine
namespace Mine
open PySem PySem.W PySem.SeqAt PyProof.Rows
section
variable {C:Cx} {A:Around} {env:Env} {ρ:Rho} {σ:Store} {X:XP} {s:Shared}
theorem Store.none_ne{σ:Store} {a b:Addr} {o:O} (h:(σ.upd b o) a=none):a≠b∧σ a=none:=by
 by_cases q:a=b
 ·subst q;simp[Store.upd]at h
 ·exact⟨q,by simpa [Store.upd,q] using h⟩
end
end Mine
namespace Mine
open PySem PySem.W
section
variable {C:Cx} {A:Around} {env:Env} {ρ:Rho} {σ:Store} {X:XP}
end
end Mine
namespace Mine
open PySem PySem.W
section
variable {C:Cx} {A:Around} {env:Env} {ρ:Rho} {σ:Store} {X:XP}
end
open PyProof.Rows
structure SWO(lt:Nat->Nat->Bool):Prop where
 irr:∀i,lt i i=false
 tr:∀i j k,lt i j=true->lt j k=true->lt i k=true
 nt:∀i j k,lt i j=false->lt j k=false->lt i k=false
noncomputable def slt (lt:Nat->Nat->Bool) (i j:Nat):Prop:=lt i j=true∨(lt j i=false∧i<j)
section
variable {lt:Nat->Nat->Bool}
theorem SWO.asym(W:SWO lt) {i j:Nat} (h:lt i j=true):lt j i=false:=by
 cases q:lt j i with
 | false=>rfl
 | true=>have:=W.tr i j i h q;rw[W.irr]at this;cases this
theorem SWO.l1(W:SWO lt) {i j k:Nat} (h:lt i j=true) (n:lt k j=false):lt i k=true:=by
 cases q:lt i k with
 | true=>rfl
 | false=>rw[W.nt i k j q n]at h;cases h
theorem SWO.l2(W:SWO lt) {i j k:Nat} (n:lt j i=false) (h:lt j k=true):lt i k=true:=by
 cases q:lt i k with
 | true=>rfl
 | false=>rw[W.nt j i k n q]at h;cases h
theorem slt.not(W:SWO lt) {i j:Nat} (h:slt lt i j):lt j i=false:=by
 rcases h with h|h
 ·exact W.asym h
 ·exact h.1
theorem slt.trans(W:SWO lt) {i j k:Nat} (a:slt lt i j) (b:slt lt j k):slt lt i k:=by
 rcases a with a|⟨a,a'⟩<;>rcases b with b|⟨b,b'⟩
 ·exact .inl (W.tr _ _ _ a b)
 ·exact .inl (W.l1 a b)
 ·exact .inl (W.l2 a b)
 ·exact .inr ⟨W.nt _ _ _ b a,Nat.lt_trans a' b'⟩
noncomputable def Srt (lt:Nat->Nat->Bool) (p:Nat->Nat) (n:Nat):Prop:=∀i j,i<j->j<n->slt lt (p i) (p j)
theorem Srt.ext(W:SWO lt) {p:Nat->Nat} {n:Nat} (h:Srt lt p n) (h1:1≤n) (k:slt lt (p (n-1)) (p n)):Srt lt p (n+1):=by
 intro i j hij hj
 by_cases q:j<n
 ·exact h i j hij q
 ·have:j=n:=by exact Y3T hj q
  subst this
  by_cases q:i=j-1
  ·subst q;exact k
  ·exact(h i (j-1) (by exact Y3U hij q) (by exact Y2G h1)).trans W k
structure Idn(p:Nat->Nat) (n N:Nat):Prop where
 rest:∀k,n≤k->k<N->p k=k
 low:∀k,k<n->p k<n
theorem Idn.succ{p:Nat->Nat} {n N:Nat} (I:Idn p n N) (h:n<N):Idn p (n+1) N:=
 ⟨fun k a b=>I.rest k (by exact Y3V a) b,fun k a=>by
  by_cases q:k<n
  ·have:=I.low k q;exact Y3W this
  ·have:k=n:=by exact Y3T a q
   subst this;rw[I.rest k (Nat.le_refl _) h];exact Y3X⟩
theorem Idn.mono{p:Nat->Nat} {n N:Nat} (I:Idn p n N):∀m,n≤m->m≤N->Idn p m N:=by
 intro m h1 h2
 induction m with
 | zero=>
  have:n=0:=by exact Y3Y h1
  subst this;exact I
 | succ m ih=>
  by_cases q:n=m+1
  ·subst q;exact I
  ·exact(ih (by exact Y3Z h1 q) (by exact Y3V h2)).succ (by exact Y40 h2)
abbrev fn(P:Array Nat) (k:Nat):Nat:=P.getD k 0
theorem ZX(P:Array Nat) (k:Nat):fn P k=(P[k]?).getD 0:=by simp[fn]
theorem ZY{P:Array Nat} {i j:Nat} (hj:j≤P.size) (k:Nat):fn (kas_rev P i j) k=if i≤k∧k<j then fn P (i+j-1-k) else fn P k:=by
 rw[ZX];unfold kas_rev;rw[getElem?_mirror_all hj]
 split<;>rw[ZX]
theorem Z43{P:Array Nat} {k d:Nat} (hk:k<P.size) (hd:d≤k) (i:Nat):fn (bubble P k d) i=if i=k-d then fn P k else if k-d<i∧i≤k then fn P (i-1) else fn P i:=by
 rw[ZX,ZX,ZX,ZX,getElem?_bubble hk d hd]
 split
 ·rfl
 ·split<;>rfl
theorem Z4L(P:Array Nat) (i j:Nat):(kas_rev P i j).size=P.size:=mirror_size _ _ _ _
theorem Z4M(P:Array Nat) (i j:Nat):(kas_rev P i j).Perm P:=mirror_perm _ _ _ _
variable {cmp:Nat->Nat->(Bool->Shared->Prop)->Shared->Prop} {s:Shared} {N:Nat}
structure PA(P:Array Nat) (N:Nat):Prop where
 sz:P.size=N
 pm:P.toList.Perm (List.range N)
theorem PA.rev{P:Array Nat} (h:PA P N) (i j:Nat):PA (kas_rev P i j) N:=⟨(Z4L _ _ _).trans h.sz,((Z4M P i j).toList).trans h.pm⟩
theorem PA.bub{P:Array Nat} (h:PA P N) (i j:Nat):PA (bubble P i j) N:=⟨(bubble_size _ _ _).trans h.sz,((bubble_perm P i j).toList).trans h.pm⟩
theorem PA.bnd{P:Array Nat} (h:PA P N) {k:Nat} (hk:k<N):fn P k<N:=by
 have hk':k<P.size:=by rw[h.sz];exact hk
 have:fn P k∈P.toList:=by
  have e:fn P k=P[k]:=by simp[fn,Array.getD,hk']
  rw[e];exact Array.getElem_mem_toList hk'
 have:=h.pm.mem_iff.mp this
 simpa using this
theorem Z2C(W:SWO lt) (hc:∀i j C,i<N->j<N->C (lt i j) s->cmp i j C s) {P:Array Nat} (hP:PA P N) {Q:Nat->Shared->Prop}:∀f n,n+f=N->1≤n->Srt lt (fn P) n->Idn (fn P) n N->
  (∀m,n≤m->m≤N->Srt lt (fn P) m->(m<N->lt (fn P m) (fn P (m-1))=true)->Q m s)->(kas_asc P f n).kasWp cmp Q s
 | 0,n,hn,h1,hs,hi,h=>h n (Nat.le_refl _) (by exact Y41 hn) hs (fun q=>by exact Y42 hn q)
 | f+1,n,hn,h1,hs,hi,h=>by
  refine hc _ _ _ (hP.bnd (by exact Y43 hn)) (hP.bnd (by exact Y44 hn)) ?_
  cases q:lt (P.getD n 0) (P.getD (n-1) 0) with
  | true=>exact h n (Nat.le_refl _) (by exact Y45 hn) hs fun _=>q
  | false=>
   refine Z2C W hc hP f (n+1) (by exact Y46 hn) (by exact YA) (hs.ext W h1 (.inr ⟨q,?_⟩)) (hi.succ (by exact Y43 hn)) fun m a b c d=>h m (by exact Y3V a) b c d
   rw[hi.rest n (Nat.le_refl _) (by exact Y43 hn)]
   exact hi.low _ (by exact Y2G h1)
structure Dsc(lt:Nat->Nat->Bool) (p:Nat->Nat) (b n:Nat):Prop where
 i1:∀i j,i<j->j<b->slt lt (p j) (p i)
 i2:∀i j,i<b->b≤j->j<n->lt (p j) (p i)=true
 i3:∀i j,b≤i->i<j->j<n->p i<p j∧lt (p i) (p j)=false∧lt (p j) (p i)=false
theorem Dsc.turn(W:SWO lt) {p p1:Nat->Nat} {b n:Nat} (h:Dsc lt p b n) (hb:b<n) (e:∀k,p1 k=if b≤k∧k<n then p (b+n-1-k) else p k):∀i j,i<j->j<n->slt lt (p1 j) (p1 i):=by
 intro i j hij hj
 rw[e,e]
 by_cases q:b≤j
 ·rw[if_pos ⟨q,hj⟩]
  by_cases q2:b≤i
  ·rw[if_pos ⟨q2,by exact Y47 hij hj⟩]
   obtain⟨a,b',c⟩:=h.i3 (b+n - 1 - j) (b+n - 1 - i) (by exact Y48 hj) (by exact Y49 hij hj) (by exact Y4a hj q2)
   exact .inr ⟨c,a⟩
  ·rw[if_neg (by exact Y4b q2)]
   exact .inl (h.i2 i _ (by exact Y4c q2) (by exact Y48 hj) (by exact Y4d hj q))
 ·rw[if_neg (by exact Y4b q),if_neg (by exact Y4e hij q)]
  exact h.i1 i j hij (by exact Y4c q)
theorem Dsc.next(W:SWO lt) {p p1:Nat->Nat} {b n:Nat} (h:Dsc lt p b n) (hb:b<n) (e:∀k,p1 k=if b≤k∧k<n then p (b+n-1-k) else p k) (hl:lt (p n) (p (n-1))=true):Dsc lt p1 n (n+1):=by
 refine⟨h.turn W hb e,fun i j hi hj hj'=>?_,fun i j a b' c=>by exact Y4f a b' c⟩
 have:j=n:=by exact Y4g hj hj'
 subst this
 rw[e j,if_neg (by exact Y4h),e i]
 by_cases q:b≤i
 ·rw[if_pos ⟨q,hi⟩]
  have:lt (p (b+j-1-i)) (p (j-1))=false:=by
   by_cases z:b+j-1-i=j-1
   ·rw[z,W.irr]
   ·exact(h.i3 _ (j-1) (by exact Y48 hi) (by exact Y4i q z) (by exact Y4j q z)).2.1
  exact W.l1 hl this
 ·rw[if_neg (by exact Y4b q)]
  exact W.tr _ _ _ hl (h.i2 i (j-1) (by exact Y4c q) (by exact Y1s hb) (by exact Y4k hi))
theorem Dsc.more(W:SWO lt) {p:Nat->Nat} {b n N:Nat} (h:Dsc lt p b n) (hb:b<n) (hi:Idn p n N) (hn:n<N) (h1:lt (p n) (p (n-1))=false) (h2:lt (p (n-1)) (p n)=false):Dsc lt p b (n+1):=by
 refine⟨h.i1,fun i j a b' c=>?_,fun i j a b' c=>?_⟩
 ·by_cases q:j<n
  ·exact h.i2 i j a b' q
  ·have:j=n:=by exact Y3T c q
   subst this
   exact W.l2 h2 (h.i2 i (j-1) a (by exact Y1s hb) (by exact Y4k hb))
 ·by_cases q:j<n
  ·exact h.i3 i j a b' q
  ·have:j=n:=by exact Y3T c q
   subst this
   refine⟨by rw[hi.rest j (Nat.le_refl _) hn];exact hi.low i b',?_⟩
   by_cases z:i=j-1
   ·subst z;exact⟨h2,h1⟩
   ·obtain⟨x,y,w⟩:=h.i3 i (j - 1) a (by exact Y3U b' z) (by exact Y4k hb)
    exact⟨W.nt _ _ _ y h2,W.nt _ _ _ h1 w⟩
theorem Idn.rev{P:Array Nat} {n b N:Nat} (hi:Idn (fn P) n N) (hP:PA P N) (hn:n≤N):Idn (fn (kas_rev P b n)) n N:=by
 refine⟨fun k a c=>?_,fun k a=>?_⟩
 ·rw[ZY (by rw[hP.sz];exact hn),if_neg (by exact Y4l a)];exact hi.rest k a c
 ·rw[ZY (by rw[hP.sz];exact hn)]
  split
  ·exact hi.low _ (by(first|lia|(first|lia|omega)))
  ·exact hi.low _ a
set_option tactic.hygienic true in
theorem Z1n(W:SWO lt) (hc:∀i j C,i<N->j<N->C (lt i j) s->cmp i j C s) {Q:Array Nat×Nat×Nat->Shared->Prop}:∀f P n q,n+f=N->q+1≤n->PA P N->Idn (fn P) n N->Dsc lt (fn P) (n-(q+1)) n->
  (∀P' m q',n≤m->m≤N->q'+1≤m->PA P' N->Idn (fn P') m N->Dsc lt (fn P') (m-(q'+1)) m->Q (P',m,q') s)->(kas_desc f P n q).kasWp cmp Q s
 | 0,P,n,q,hn,hq,hP,hi,hd,h=>h P n q (Nat.le_refl _) (by exact Y41 hn) hq hP hi hd
 | f+1,P,n,q,hn,hq,hP,hi,hd,h=>by
  refine hc _ _ _ (hP.bnd (by exact Y43 hn)) (hP.bnd (by exact Y44 hn)) ?_
  cases c:lt (P.getD n 0) (P.getD (n-1) 0) with
  | true=>
   simp only[if_true]
   split
   ·rename_i q0
    have e:=ZY (P:=P) (i:=n-(q+1)) (j:=n) (by rw[hP.sz];exact Y45 hn)
    refine Z1n W hc f _ (n+1) 0 (by exact Y46 hn) (by exact Yt) (hP.rev _ _) ((hi.rev hP (by exact Y45 hn)).succ (by exact Y43 hn)) ?_ fun P' m q' a b c d e g=>h P' m q' (by exact Y3V a) b c d e g
    exact hd.next W (by exact Y4m hq) e c
   ·rename_i q0
    have q0:q=0:=by exact Y4n q0
    subst q0
    refine Z1n W hc f _ (n+1) 0 (by exact Y46 hn) (by exact Yt) hP (hi.succ (by exact Y43 hn)) ?_ fun P' m q' a b c d e g=>h P' m q' (by exact Y3V a) b c d e g
    refine hd.next W (by exact Y4o hq) (fun k=>?_) c
    split
    ·congr 1;(first|lia|(first|lia|omega))
    ·rfl
  | false=>
   simp only[Bool.false_eq_true,if_false]
   refine hc _ _ _ (hP.bnd (by exact Y44 hn)) (hP.bnd (by exact Y43 hn)) ?_
   cases c2:lt (P.getD (n-1) 0) (P.getD n 0) with
   | true=>
    simp only[if_true]
    exact h P n q (Nat.le_refl _) (by exact Y45 hn) hq hP hi hd
   | false=>
    simp only[Bool.false_eq_true,if_false]
    refine Z1n W hc f P (n+1) (q+1) (by exact Y46 hn) (by exact Yx hq) hP (hi.succ (by exact Y43 hn)) ?_ fun P' m q' a b c d e g=>h P' m q' (by exact Y3V a) b c d e g
    have:n+1-(q+1+1)=n-(q+1):=by exact Y4p
    rw[this]
    exact hd.more W (by exact Y4m hq) hi (by exact Y43 hn) c c2
theorem Z2D(W:SWO lt) (hc:∀i j C,i<N->j<N->C (lt i j) s->cmp i j C s) {P:Array Nat} {n:Nat} {Q:Nat×Array Nat->Shared->Prop} (h1:1≤n) (hn:n≤N) (hP:PA P N) (hi:Idn (fn P) n N) (hd:∀i j,i<j->j<n->slt lt (fn P j) (fn P i))
  (h:∀m P',1≤m->m≤N->PA P' N->Idn (fn P') m N->Srt lt (fn P') m->Q (m,P') s):(kas_tail3 n N P).kasWp cmp Q s:=by
 unfold kas_tail3
 rw[KasT.kasWp_bind]
 have e:=ZY (P:=P) (i:=0) (j:=n) (by rw[hP.sz];exact Y15 hn)
 have hs:Srt lt (fn (kas_rev P 0 n)) n:=fun i j a b=>by
  rw[e,e,if_pos (by exact Y4q a b),if_pos (by exact Y4r b)]
  exact hd _ _ (by exact Y4s a b) (by exact Y4t b)
 refine Z2C W hc (hP.rev 0 n) (N-n) n (by exact Y4u hn) h1 hs (hi.rev hP hn) fun m a b c d=>?_
 exact h m _ (by exact Ye h1 a) b (hP.rev 0 n) ((hi.rev hP hn).mono m a b) c
theorem Z1v(W:SWO lt) (hc:∀i j C,i<N->j<N->C (lt i j) s->cmp i j C s) {P:Array Nat} {n:Nat} {Q:Nat×Array Nat->Shared->Prop} (hn:n+1≤N) (h1:1≤n) (hP:PA P N) (hi:Idn (fn P) n N) (hd:Dsc lt (fn P) n (n+1))
  (h:∀m P',1≤m->m≤N->PA P' N->Idn (fn P') m N->Srt lt (fn P') m->Q (m,P') s):(kas_descPart n N P).kasWp cmp Q s:=by
 unfold kas_descPart
 rw[KasT.kasWp_bind]
 refine Z1n W hc (N - (n+1)) P (n+1) 0 (by exact Y4v hn) (by exact Yt) hP (hi.succ (by exact Y40 hn)) (by simpa using hd) fun P' m q' a b c d e g=>?_
 dsimp only
 split
 ·have ee:=ZY (P:=P') (i:=m-(q'+1)) (j:=m) (by rw[d.sz];exact Y15 b)
  exact Z2D W hc (by exact Yq c) b (d.rev _ _) (e.rev d b) (g.turn W (by exact Y4m c) ee) h
 ·have q0:q'=0:=by(first|lia|(first|lia|omega))
  subst q0
  refine Z2D W hc (by exact Y4w c) b d e (g.turn W (by exact Y4o c) fun k=>?_) h
  split
  ·congr 1;(first|lia|(first|lia|omega))
  ·rfl
set_option tactic.hygienic true in
theorem Z4N{P:Array Nat} {Q:Nat×Array Nat->Shared->Prop} (W:SWO lt) (hc:∀i j C,i<N->j<N->C (lt i j) s->cmp i j C s) (h1:1≤N) (hP:PA P N) (hi:Idn (fn P) 1 N) (h:∀m P',1≤m->m≤N->PA P' N->Idn (fn P') m N->Srt lt (fn P') m->Q (m,P') s):(kas_count N P).kasWp cmp Q s:=by
 revert lt cmp s N P Q;k_extra "e6";intro lt cmp s N P Q W hc h1 hP hi h
 unfold kas_count
 rw[KasT.kasWp_bind]
 refine Z2C W hc hP (N-1) 1 (by exact Y4x h1) (Nat.le_refl _) (fun i j a b=>by exact Y4y a b) hi fun n a b c d=>?_
 have hin:=hi.mono n a b
 split
 ·exact h n P a b hP hin c
 ·rename_i e
  have hlt:n<N:=by
   have:n≠N:=fun q=>e (by simp[q])
   exact Y4z b this
  have dl:=d hlt
  split
  ·refine hc _ _ _ (hP.bnd (by exact Y4A hlt)) (hP.bnd (by exact Y4B hlt)) ?_
   cases c2:lt (P.getD 0 0) (P.getD (n-1) 0) with
   | true=>
    simp only[if_true]
    exact h n P a b hP hin c
   | false=>
    simp only[Bool.false_eq_true,if_false]
    have e:=ZY (P:=P) (i:=0) (j:=n) (by rw[hP.sz];exact Yd hlt)
    refine Z1v W hc hlt a (hP.rev 0 n) (hin.rev hP b) ⟨fun i j x y=>?_,fun i j x y z=>?_,fun i j x y z=>by exact Y4f x y z⟩ h
    ·rw[e,e,if_pos (by exact Y4r y),if_pos (by exact Y4q x y)]
     exact c _ _ (by exact Y4s x y) (by exact Y4t y)
    ·have:j=n:=by exact Y4g y z
     subst this
     rw[e j,e i,if_neg (by exact Y4C),if_pos (by exact Y4r x)]
     have k0:lt (fn P (0+j-1-i)) (fn P 0)=false:=by
      by_cases z:0+j-1-i=0
      ·rw[z,W.irr]
      ·exact(c 0 (0+j-1-i) (by exact Y4D z) (by exact Y4E z)).not W
     exact W.l1 dl (W.nt _ _ _ k0 c2)
  ·have:n=1:=by(first|lia|(first|lia|omega))
   subst this
   refine Z1v W hc hlt a hP hin ⟨fun i j x y=>by exact Y4y x y,fun i j x y z=>?_,fun i j x y z=>by exact Y4F x y z⟩ h
   have e1:j=1:=by exact Y4G y z
   have e2:i=0:=by exact Y4H x
   subst e1 e2
   exact dl
theorem Z1E(W:SWO lt) (hc:∀i j C,i<N->j<N->C (lt i j) s->cmp i j C s) {P:Array Nat} {k:Nat} {Q:Nat->Shared->Prop} (hP:PA P N) (hk:k<N) (hs:Srt lt (fn P) k):∀f l r,l≤r->r≤k->r-l≤f->
  (∀i,i<l->lt (fn P k) (fn P i)=false)->(∀i,r≤i->i<k->lt (fn P k) (fn P i)=true)->
  (∀l,l≤k->(∀i,i<l->lt (fn P k) (fn P i)=false)->(∀i,l≤i->i<k->lt (fn P k) (fn P i)=true)->Q l s)->(kas_place P k f l r).kasWp cmp Q s
 | 0,l,r,h1,h2,h3,a,b,h=>h l (by exact YJ h1 h2) a fun i x y=>b i (by exact Y4I h3 x) y
 | f+1,l,r,h1,h2,h3,a,b,h=>by
  unfold kas_place
  split
  ·exact h l (by exact YJ h1 h2) a fun i x y=>b i (by(first|lia|(first|lia|omega))) y
  ·refine hc _ _ _ (hP.bnd hk) (hP.bnd (by exact Y4K hk h1 h2)) ?_
   cases c:lt (P.getD k 0) (P.getD ((l+r) / 2) 0) with
   | true=>
    simp only[if_true]
    refine Z1E W hc hP hk hs f l ((l+r) / 2) (by exact Y4M h1) (by exact YV h1 h2) (by exact Y4N h3) a (fun i x y=>?_) h
    by_cases z:i=(l+r) / 2
    ·subst z;exact c
    ·exact W.l1 c ((hs ((l+r) / 2) i (by exact Y4P x z) y).not W)
   | false=>
    simp only[Bool.false_eq_true,if_false]
    refine Z1E W hc hP hk hs f ((l+r) / 2+1) r (by(first|lia|(first|lia|omega))) h2 (by exact Y4Q h3) (fun i x=>?_) b h
    by_cases z:i=(l+r) / 2
    ·subst z;exact c
    ·exact W.nt _ _ _ c ((hs i ((l+r) / 2) (by exact Y4S x z) (by(first|lia|(first|lia|omega)))).not W)
theorem Z5p{P:Array Nat} {k l:Nat} (W:SWO lt) (hP:PA P N) (hk:k<N) (hs:Srt lt (fn P) k) (hi:Idn (fn P) k N) (hl:l≤k) (a:∀i,i<l->lt (fn P k) (fn P i)=false) (b:∀i,l≤i->i<k->lt (fn P k) (fn P i)=true) :
  Srt lt (fn (bubble P k (k-l))) (k+1)∧Idn (fn (bubble P k (k-l))) (k+1) N:=by
 revert lt N P k l;k_extra "e5";intro lt N P k l W hP hk hs hi hl a b
 have e:∀i,fn (bubble P k (k-l)) i=if i=l then fn P k else if l<i∧i≤k then fn P (i-1) else fn P i:=fun i=>by
  have e:=Z43 (P:=P) (k:=k) (d:=k-l) (by rw[hP.sz];exact hk) (by exact Y4T) i
  have:k-(k-l)=l:=by exact Y2j hl
  rwa [this]at e
 refine⟨fun i j hij hj=>?_,fun i x y=>?_,fun i x=>?_⟩
 ·rw[e i,e j]
  by_cases q1:j=l
  ·rw[if_pos q1,if_neg (by exact Y4U hij q1),if_neg (by exact Y4V hij q1)]
   refine .inr ⟨a i (by exact Y4W hij q1),?_⟩
   rw[hi.rest k (Nat.le_refl _) hk];exact hi.low i (by exact Y4X hij hj)
  ·rw[if_neg q1]
   by_cases q2:i=l
   ·rw[if_pos q2,if_pos (by exact Y4Y hij hj q2)]
    exact .inl (b (j-1) (by exact Y4Z hij q2) (by exact Y50 hij hj))
   ·rw[if_neg q2]
    by_cases q3:l<i∧i≤k
    ·rw[if_pos q3,if_pos (by exact Y51 hij hj q3)];exact hs _ _ (by exact Y52 hij q3) (by exact Y53 hj q3)
    ·rw[if_neg q3]
     by_cases q4:l<j∧j≤k
     ·rw[if_pos q4];exact hs _ _ (by exact Y54 hij q2 q3 q4) (by exact Y55 q4)
     ·rw[if_neg q4];exact hs _ _ hij (by exact Y56 hl hj q1 q4)
 ·rw[e i,if_neg (by exact Y57 hl x),if_neg (by exact Y58 x)];exact hi.rest i (by exact Y3V x) y
 ·rw[e i]
  split
  ·rw[hi.rest k (Nat.le_refl _) hk];exact Y3X
  ·split
   ·have:=hi.low (i-1) (by(first|lia|(first|lia|omega)));exact Y3W this
   ·have:=hi.low i (by(first|lia|(first|lia|omega)));exact Y3W this
theorem Z44(W:SWO lt) (hc:∀i j C,i<N->j<N->C (lt i j) s->cmp i j C s) {Q:Array Nat->Shared->Prop}:∀f P k,k+f=N->PA P N->Srt lt (fn P) k->Idn (fn P) k N->
  (∀P',PA P' N->Srt lt (fn P') N->Q P' s)->(kas_bin f P k).kasWp cmp Q s
 | 0,P,k,hk,hP,hs,hi,h=>h P hP (by have e:=(by exact Y59 hk:k=N);subst e;exact hs)
 | f+1,P,k,hk,hP,hs,hi,h=>by
  unfold kas_bin
  rw[KasT.kasWp_bind]
  refine Z1E W hc hP (by exact Y43 hk) hs k 0 k (Nat.zero_le _) (Nat.le_refl _) (by exact Y5a) (fun i x=>by exact Y5b x) (fun i x y=>by exact Y5c x y) fun l hl a b=>?_
  obtain⟨s1,i1⟩:=Z5p W hP (by exact Y43 hk) hs hi hl a b
  exact Z44 W hc f _ (k+1) (by exact Y46 hk) (hP.bub _ _) s1 i1 h
theorem Z5q(W:SWO lt) (hc:∀i j C,i<N->j<N->C (lt i j) s->cmp i j C s) {Q:Array Nat->Shared->Prop} (h1:1≤N)
  (h:∀P',P'.toList.Perm (List.range N)->P'.toList.Pairwise (slt lt)->Q P' s):(kas_sort N).kasWp cmp Q s:=by
 have fin:∀P',PA P' N->Srt lt (fn P') N->Q P' s:=fun P' hP hs=>by
  refine h P' hP.pm (List.pairwise_iff_getElem.mpr fun i j hi hj hij=>?_)
  have hz:=hP.sz
  simp only[Array.length_toList]at hi hj
  have:=hs i j hij (by exact Y4W hj hz)
  have e:∀k (hk:k<P'.size),fn P' k=P'[k]:=fun k hk=>by simp[fn,Array.getD,hk]
  rw[e i hi,e j hj]at this
  simpa using this
 unfold kas_sort
 rw[KasT.kasWp_bind]
 have hP0:PA (List.toArray (List.range N)) N:=⟨by simp,by simp⟩
 have e0:∀k,k<N->fn (List.toArray (List.range N)) k=k:=fun k hk=>by simp[fn,Array.getD,hk]
 refine Z4N W hc h1 hP0 ⟨fun k a b=>e0 k b,fun k a=>by rw[e0 k (by exact Y5d h1 a)];exact a⟩ fun m P' a b c d e=>?_
 dsimp only
 split
 ·have hm:max m 1=m:=by exact Y5e a
  rw[hm]
  exact Z44 W hc (N-m) P' m (by exact Y4u b) c e d fin
 ·have:m=N:=by(first|lia|(first|lia|omega))
  subst this
  exact fin P' c e
end
end Mine
set_option maxRecDepth 100000
namespace Mine
open PySem PySem.W PySem.SeqAt PyProof.Rows
noncomputable def pv (p:Int×Int):V:=.tup [.int p.1,.int p.2]
noncomputable def lexlt (p q:Int×Int):Bool:=decide (p.1<q.1)||(p.1==q.1&&decide (p.2<q.2))
theorem lexlt_iff{p q:Int×Int}:lexlt p q=true↔p.1<q.1∨(p.1=q.1∧p.2<q.2):=by simp[lexlt]
theorem lexlt_false{p q:Int×Int}:lexlt p q=false↔q.1<p.1∨(q.1=p.1∧q.2≤p.2):=by
 rw[←Bool.not_eq_true,lexlt_iff];exact Y5f
theorem Z5N(f:Nat->Int):SWO (fun i j=>decide (f i<f j)):=by
 refine⟨fun i=>?_,fun i j k=>?_,fun i j k=>?_⟩<;>simp<;>(first|lia|(first|lia|omega))
section
variable {prog:Program} {w:World} {A:Around} {E:pS} {s:Shared}
theorem VR.pv_at{h:Heap} {v:Value} {p:Int×Int} (r:VR h v (pv p)):∃a t u n,v=.ref a∧h.get? a=some (Zk #[.int p.1 t,.int p.2 u] n):=by
 revert h v p;k_extra "e3";intro h v p r
 obtain⟨a,⟨l⟩,n,rfl,e,rs⟩:=VR.tupI (xs:=[.int p.1,.int p.2]) r
 obtain⟨_,_,e2,r1,r2⟩:=rs.two
 obtain⟨_,rfl⟩:=r1.intI
 obtain⟨_,rfl⟩:=r2.intI
 have e2:l=_:=e2
 subst e2
 exact⟨_,_,_,_,rfl,e⟩
theorem Z3f{a b:Addr} {x y x' y':Int} {t u t' u':Tok} {n k:Nat} {Q:pS} (ha:s.heap.get? a=some (Zk #[.int x t,.int y u] n)) (hb:s.heap.get? b=some (Zk #[.int x' t',.int y' u'] k)) (hu:A.units<cLine)
  (h:Q (.bool (lexlt (x,y) (x',y'))) s):wpAny (model prog w) A (richCompare .Lt (.ref a) (.ref b)) Q E s:=by
 refine wpAny_richCompare_same_room (T:="tuple") (id:="tuple.__lt__") ⟨_,ha,rfl⟩ ⟨_,hb,rfl⟩ PySem.F.slot_tuple_lt ?_ hu
 refine wpAny_call_entry PySem.F.slot_tuple_lt ⟨_,ha,rfl⟩ PySem.F.entry_tuple_lt ?_ (PySem.F.args_tuple_lt_2 _ _)
 show wpAny _ _ (isInstance (.ref b) (.type "tuple")>>=_) _ _ s
 refine wpAny_bind (wpAny_isInstance ⟨_,hb,rfl⟩ isSubtype_tuple_tuple ?_)
 simp only[Bool.not_true,Bool.false_eq_true,if_false]
 refine wpAny_bind (wpAny_tupleItemsOf ha rfl ?_)
 refine wpAny_bind (wpAny_tupleItemsOf hb rfl ?_)
 refine wpAny_bind ?_
 simp only[List.zip_cons_cons,List.zip_nil_right,List.forIn_cons,List.forIn_nil]
 refine wpAny_bind (wpAny_bind (wpAny_eqBool_int ?_))
 by_cases q:x=x'
 ·subst q
  have e1:(x==x)=true:=beq_self_eq_true _
  simp only[e1,Bool.not_true,Bool.false_eq_true,if_false]
  refine wpAny_pure ?_
  refine wpAny_bind (wpAny_bind (wpAny_eqBool_int ?_))
  by_cases q2:y=y'
  ·subst q2
   have e2:(y==y)=true:=beq_self_eq_true _
   simp only[e2,Bool.not_true,Bool.false_eq_true,if_false]
   refine wpAny_pure (wpAny_pure (wpAny_pure ⟨_,rfl,fun z=>(nomatch z),?_⟩))
   have:(lexlt (x,y) (x,y))=false:=by simp[lexlt]
   rw[this]at h;exact h
  ·have e2:(y==y')=false:=beq_eq_false_iff_ne.mpr q2
   simp only[e2,Bool.not_false,if_true]
   refine wpAny_bind (wpAny_rule (wpAny_bind (PySem.P.lt_int (wpAny_bind (wpAny_pure (wpAny_pure (wpAny_pure (wpAny_pure ⟨_,rfl,fun z=>(nomatch z),?_⟩))))))))
   have:(lexlt (x,y) (x,y'))=decide (y<y'):=by rw[Bool.eq_iff_iff];simp[lexlt]<;>(first|lia|(first|lia|omega))
   rw[this]at h;exact h
 ·have e1:(x==x')=false:=beq_eq_false_iff_ne.mpr q
  simp only[e1,Bool.not_false,if_true]
  refine wpAny_bind (wpAny_rule (wpAny_bind (PySem.P.lt_int (wpAny_bind (wpAny_pure (wpAny_pure (wpAny_pure (wpAny_pure ⟨_,rfl,fun z=>(nomatch z),?_⟩))))))))
  have:(lexlt (x,y) (x',y'))=decide (x<x'):=by rw[Bool.eq_iff_iff];simp[lexlt]<;>(first|lia|(first|lia|omega))
  rw[this]at h;exact h
end
noncomputable def PairAt (h:Heap) (v:Value) (p:Int×Int):Prop:=∃a t u n,v=.ref a∧h.get? a=some (Zk #[.int p.1 t,.int p.2 u] n)
structure MinOk(prog:Program) (w:World) (A:Around) (base:Heap) {α:Type} (At:Value->α->Prop) (lt:α->α->Bool):Prop where
 cmp:∀(s:Shared) (x y:Value) (p q:α) (Q:pS) (E:pS),(∀b o,base.get? b=some o->s.heap.get? b=some o)->At x p->At y q->Q (.bool (lt p q)) s->wpAny (model prog w) A.in1 (richCompare .Lt x y) Q E s
 irr:∀p,lt p p=false
 tr:∀r p q,lt r p=false->lt q p=true->lt r q=false
section
variable {prog:Program} {w:World} {A:Around} {E:pS} {s:Shared}
theorem Z4O{base:Heap} {I S l:Addr} {items:Array Value} {R:Result->Shared->Prop} {α:Type} {At:Value->α->Prop} {lt:α->α->Bool} {ps:List α} (hh:A.handled=none) (hc:MinOk prog w A base At lt) (hI:base.objs.size≤I) (hS:base.objs.size≤S) (hIS:I≠S) (hl:base.IsList l items) (hz:items.size=ps.length) (hr:∀(i:Nat) (v:Value) (p:α),items[i]?=some v->ps[i]?=some p->At v p) :
  ∀(k j:Nat) (s:Shared) (vb:Value) (c:Nat) (p:α),ps.length-(j+1)=k->j+1≤ps.length->s.heap.IsListIter I l (j+1)->(∀b o,base.get? b=some o->s.heap.get? b=some o)->
  s.heap.get? S=some { cls:=.type "list",dict:=none,data:=.seq #[vb,vb] c,slots:=#[] }->At vb p->(∃i:Nat,i<ps.length∧items[i]?=some vb∧ps[i]?=some p)->(∀q∈ps.take (j+1),lt q p=false)->
  (∀v p h' tk,(∃i:Nat,i<ps.length∧items[i]?=some v∧ps[i]?=some p)->(∀q∈ps,lt q p=false)->(∀b o,base.get? b=some o->h'.get? b=some o)->R (.ok (.ret v)) { s with heap:=h',toks:=tk })->
  codeAny (model prog w) A (.builtin "min.loop" ⟨[.ref I,.none,.ref S],[]⟩) R s:=by
 revert prog w A base I S l items R α At lt ps hh hc hI hS hIS hl hz hr;k_extra "e9";intro prog w A base I S l items R α At lt ps hh hc hI hS hIS hl hz hr
 have hname:(toString "min" ++ toString ".loop":String)="min.loop":=by decide
 have hlI:l≠I:=by obtain⟨o,e,_⟩:=hl;exact Nat.ne_of_lt (Nat.lt_of_lt_of_le (Heap.lt_size e) hI)
 have W:=Walks.list (prog:=prog) (w:=w) (A:=A.in1) hh I l hlI items
 have up:∀{h h':Heap},(∀b o,base.get? b=some o->h.get? b=some o)->(∀b o,b∉[I]->h.get? b=some o->h'.get? b=some o)->∀b o,base.get? b=some o->h'.get? b=some o:=fun a b' c o e=>
  b' c o (fun q=>by rw[List.mem_singleton.mp q]at e;exact absurd (Heap.lt_size e) (Nat.not_lt.mpr hI)) (a c o e)
 have upS:∀{h:Heap} {f:Obj->Obj},(∀b o,base.get? b=some o->h.get? b=some o)->∀b o,base.get? b=some o->(h.update S f).get? b=some o:=fun a c o e=>
  (Heap.get?_update_other _ _ (fun q:S=c=>by rw[←q]at e;exact absurd (Heap.lt_size e) (Nat.not_lt.mpr hS))).trans (a c o e)
 have hSI:S∉[I]:=fun q=>hIS (List.mem_singleton.mp q).symm
 intro k
 induction k with
 | zero=>
  intro j s vb c p hk hj hit hb hSo hp hin hmin hR
  have hjn:j+1=items.size:=by exact Y5g hz hk hj
  refine codeAny_builtin F.entry_min_loop ?_
  rw[Around.under_plainId F.plain_min_loop _]
  show wpAny _ A.in1 (seqItems? (.ref S)>>=_) _ _ s
  refine wpAny_bind (wpAny_seqItems hSo rfl ?_)
  show wpAny _ A.in1 (tryCatch (pyNext (.ref I)) _>>=_) _ _ s
  refine wpAny_bind (wpAny_tryCatch (W.done s _ _ ⟨hjn▸hit,hl.at fun o e=>hb _ _ e⟩ fun h' tk hk'=>?_))
  have hS':=hk' S _ hSI hSo
  show wpAny _ A.in1 (updateSeq S (fun _=>#[])>>=_) _ _ _
  refine wpAny_bind ?_
  refine wpAny_updateSeq hS' rfl (wpAny_bind (wpAny_letGo (wpAny_pure ?_)))
  refine hR vb p _ tk hin (fun q hq=>hmin q ?_) (upS (up hb hk'))
  rw[List.take_of_length_le (by exact Y5h hk)];exact hq
 | succ k ih=>
  intro j s vb c p hk hj hit hb hSo hp hin hmin hR
  have hlt:j+1<items.size:=by exact Y5i hz hk
  refine codeAny_builtin F.entry_min_loop ?_
  rw[Around.under_plainId F.plain_min_loop _]
  show wpAny _ A.in1 (seqItems? (.ref S)>>=_) _ _ s
  refine wpAny_bind (wpAny_seqItems hSo rfl ?_)
  show wpAny _ A.in1 (tryCatch (pyNext (.ref I)) _>>=_) _ _ s
  refine wpAny_bind (wpAny_tryCatch (W.item (j+1) s _ _ hlt ⟨hit,hl.at fun o e=>hb _ _ e⟩ fun v h' tk hP hst' hk'=>?_))
  have hS':=hk' S _ hSI hSo
  have hb':=up hb hk'
  have hlt':j+1<ps.length:=by exact Y5j hk
  obtain⟨q,hq⟩:∃q,ps[j+1]?=some q:=⟨_,List.getElem?_eq_getElem hlt'⟩
  have take_succ:∀r∈ps.take (j+1+1),r∈ps.take (j+1)∨r=q:=fun r hr'=>by
   rw[List.take_add_one,hq]at hr'
   simpa using hr'
  show wpAny _ A.in1 (tryCatch (holding [_,_] (richCompare .Lt v vb>>=_)) _>>=_) _ _ _
  refine wpAny_bind (wpAny_tryCatch (wpAny_holding (wpAny_bind (hc.cmp _ _ _ _ _ _ _ hb' (hr _ _ _ hP hq) hp ?_))))
  refine wpAny_bind (wpAny_holding (wpAny_truthy_bool ?_))
  refine wpAny_bind (wpAny_letGo (wpAny_pure ?_))
  cases hcc:lt q p with
  | true=>
   simp only[if_true]
   refine wpAny_bind ?_
   refine wpAny_updateSeq hS' rfl (wpAny_bind (wpAny_letGo ?_))
   rw[hname]
   refine wpAny_pure ⟨plainId_quiet F.plain_min_loop _,ih (j+1) _ v _ q (by exact Y5k hk) hlt' ((hst'.1).at fun o e=>(Heap.get?_update_other _ _ (Ne.symm hIS)).trans e) (upS hb') (Heap.get?_update_self _ hS' rfl) (hr _ _ _ hP hq) ⟨j+1,hlt',hP,hq⟩ (fun r hr'=>?_) fun v' p' h'' tk'' x1 x2 x3=>hR v' p' h'' tk'' x1 x2 x3⟩
   rcases take_succ r hr' with z|z
   ·exact hc.tr _ _ _ (hmin r z) hcc
   ·subst z;exact hc.irr _
  | false=>
   simp only[Bool.false_eq_true,if_false]
   refine wpAny_bind (wpAny_letGo ?_)
   rw[hname]
   refine wpAny_pure ⟨plainId_quiet F.plain_min_loop _,ih (j+1) _ vb c p (by exact Y5k hk) hlt' hst'.1 hb' hS' hp hin (fun r hr'=>?_) fun v' p' h'' tk'' x1 x2 x3=>hR v' p' h'' tk'' x1 x2 x3⟩
   rcases take_succ r hr' with z|z
   ·exact hmin r z
   ·subst z;exact hcc
theorem Z45{l:Addr} {items:Array Value} {Q:pS} {α:Type} {At:Value->α->Prop} {lt:α->α->Bool} {ps:List α} (hh:A.handled=none) (hc:MinOk prog w A s.heap At lt) (hl:s.heap.IsList l items) (hz:items.size=ps.length) (hne:0<ps.length) (hr:∀(i:Nat) (v:Value) (p:α),items[i]?=some v->ps[i]?=some p->At v p) (h:∀v p h' tk,(∃i:Nat,i<ps.length∧items[i]?=some v∧ps[i]?=some p)->(∀q∈ps,lt q p=false)->(∀b o,s.heap.get? b=some o->h'.get? b=some o)->Q v { s with heap:=h',toks:=tk }) :
  wpAny (model prog w) A (call (.builtin "min") [.ref l]) Q E s:=by
 revert prog w A E s l items Q α At lt ps hh hc hl hz hne hr h;k_extra "e8";intro prog w A E s l items Q α At lt ps hh hc hl hz hne hr h
 have hname:(toString "min" ++ toString ".loop":String)="min.loop":=by decide
 have hlt:l<s.heap.objs.size:=by obtain⟨o,e,_⟩:=hl;exact Heap.lt_size e
 refine call_function_tree F.kind_min F.plain_min F.entry_min (F.args_min1 _) ?_
 show wpAny _ A.in1 (Builtin.Builtins.bindParams "min" ["key","default"] 0 ⟨[],[]⟩>>=_) _ _ s
 refine wpAny_bind (wpAny_of_eq (show Builtin.Builtins.bindParams "min" ["key","default"] 0 ⟨[],[]⟩=pure [none,none] from rfl) ?_)
 refine wpAny_bind (wpAny_pure ?_)
 refine wpAny_bind (wpAny_pyIter_list hl ?_)
 refine wpAny_bind (wpAny_newObj_type ?_)
 rw[hname]
 refine wpAny_pure ⟨plainId_quiet F.plain_min_loop _,?_⟩
 generalize hH:(s.heap.push _).push _=H
 have hIt:H.IsListIter s.heap.objs.size l 0:=by rw[←hH];exact⟨_,Heap.get?_push_of_some _ (Heap.get?_push_size _ rfl),rfl,rfl⟩
 have hSz:∀o:Obj,(s.heap.push o).objs.size=s.heap.objs.size+1:=fun o=>Heap.size_push ..
 rw[hSz]
 have hSo:H.get? (s.heap.objs.size+1)=some { cls:=.type "list",dict:=none,data:=.seq #[] 0,slots:=#[] }:=by rw[←hH,←hSz];exact Heap.get?_push_size _ rfl
 have hb:∀b o,s.heap.get? b=some o->H.get? b=some o:=fun b o e=>by rw[←hH];exact Heap.get?_push_of_some _ (Heap.get?_push_of_some _ e)
 have W:=Walks.list (prog:=prog) (w:=w) (A:=A.in1) hh s.heap.objs.size l (Nat.ne_of_lt hlt) items
 have hSI:s.heap.objs.size+1∉[s.heap.objs.size]:=fun q=>by have:=List.mem_singleton.mp q;exact Y5l this
 refine codeAny_builtin F.entry_min_loop ?_
 rw[Around.under_plainId F.plain_min_loop _]
 show wpAny _ A.in1 (seqItems? (.ref (s.heap.objs.size+1))>>=_) _ _ _
 refine wpAny_bind (wpAny_seqItems hSo rfl ?_)
 show wpAny _ A.in1 (tryCatch (pyNext (.ref s.heap.objs.size)) _>>=_) _ _ _
 refine wpAny_bind (wpAny_tryCatch (W.item 0 _ _ _ (by exact Y5m hz hne) ⟨hIt,hl.at fun o e=>hb _ _ e⟩ fun v h' tk hP hst' hk'=>?_))
 have hS':=hk' _ _ hSI hSo
 show wpAny _ A.in1 (updateSeq (s.heap.objs.size+1) (fun _=>#[v,v])>>=_) _ _ _
 refine wpAny_bind ?_
 refine wpAny_updateSeq hS' rfl ?_
 rw[hname]
 obtain⟨q,hq⟩:∃q,ps[0]?=some q:=⟨_,List.getElem?_eq_getElem hne⟩
 refine wpAny_pure ⟨plainId_quiet F.plain_min_loop _,Z4O (base:=s.heap) hh hc (Nat.le_refl _) (Nat.le_succ _) (Nat.ne_of_lt (Nat.lt_succ_self _)) hl hz hr _ 0 _ v _ q rfl hne ((hst'.1).at fun o e=>(Heap.get?_update_other _ _ (Nat.succ_ne_self _)).trans e) (fun b o e=>?_) (Heap.get?_update_self _ hS' rfl) (hr _ _ _ hP hq) ⟨0,hne,hP,hq⟩ (fun r hr'=>?_) fun v' p' h'' tk'' x1 x2 x3=>h v' p' h'' tk'' x1 x2 x3⟩
 ·exact(Heap.get?_update_other _ _ (Nat.ne_of_gt (Nat.lt_succ_of_lt (Heap.lt_size e)))).trans (hk' b o (fun q=>absurd (List.mem_singleton.mp q) (Nat.ne_of_lt (Heap.lt_size e))) (hb b o e))
 ·rw[List.take_add_one,hq]at hr'
  have:r=q:=by simpa using hr'
  subst this;exact hc.irr _
theorem Z25{l:Addr} {items:Array Value} {ps:List (Int×Int)} {Q:pS} (hh:A.handled=none) (hu:A.units+1<cLine) (hl:s.heap.IsList l items) (hz:items.size=ps.length) (hne:0<ps.length) (hr:∀(i:Nat) (v:Value) (p:Int×Int),items[i]?=some v->ps[i]?=some p->PairAt s.heap v p) (h:∀v p h' tk,(∃i:Nat,i<ps.length∧items[i]?=some v∧ps[i]?=some p)->(∀q∈ps,lexlt q p=false)->(∀b o,s.heap.get? b=some o->h'.get? b=some o)->Q v { s with heap:=h',toks:=tk }) :
  wpAny (model prog w) A (call (.builtin "min") [.ref l]) Q E s:=by
 revert prog w A E s l items ps Q;k_extra "e9";intro prog w A E s l items ps Q hh hu hl hz hne hr h
 refine Z45 hh ⟨fun s' x y p q Q E hb hx hy hq=>?_,fun p=>?_,fun r p q h1 h2=>?_⟩ hl hz hne hr h
 ·obtain⟨a1,t1,u1,n1,rfl,e1⟩:=hx
  obtain⟨a2,t2,u2,n2,rfl,e2⟩:=hy
  exact Z3f (hb _ _ e1) (hb _ _ e2) hu hq
 ·rw[lexlt_false];exact Y3N
 ·rw[lexlt_false]at h1 ⊢
  rw[lexlt_iff]at h2
  (first|lia|(first|lia|omega))
end
section
variable {prog:Program} {w:World} {A:Around} {E:pS} {s:Shared}
theorem Z4P{b:Bool} {h:Heap} {x y:Value} {p q:Int×Int} {C:Bool->Shared->Prop} (hx:PairAt s.heap x p) (hy:PairAt s.heap y q) (hC:C (lexlt p q) s):wpAny (model prog w) A (keyLt' (tuples' true) x y) C E s:=by
 revert prog w A E s b h x y p q C;k_extra "e12";intro prog w A E s b h x y p q C hx hy hC
 obtain⟨a1,t1,u1,n1,rfl,e1⟩:=hx
 obtain⟨a2,t2,u2,n2,rfl,e2⟩:=hy
 refine kat_lt e1 rfl e2 rfl ?_
 show KatLex prog w A true false C [(Value.int p.1 t1,Value.int q.1 t2),(Value.int p.2 u1,Value.int q.2 u2)] 0 s
 refine kat_cons (wpAny_eqBool_int ?_)
 by_cases z:p.1=q.1
 ·rw[z,beq_self_eq_true]
  refine kat_yes (kat_cons (wpAny_eqBool_int ?_))
  by_cases z2:p.2=q.2
  ·rw[z2,beq_self_eq_true]
   refine kat_yes (kat_nil ?_)
   have:lexlt p q=false:=by rw[lexlt_false];exact Y5p z z2
   rw[this]at hC;exact hC
  ·rw[beq_eq_false_iff_ne.mpr z2]
   refine kat_no (kat_one _ _ (PySem.P.lt_int ?_))
   have:lexlt p q=decide (p.2<q.2):=by simp[lexlt,z]
   rw[this]at hC;exact hC
 ·rw[beq_eq_false_iff_ne.mpr z]
  refine kat_no (oneLt_int ?_)
  have:lexlt p q=decide (p.1<q.1):=by simp[lexlt,z]
  rw[this]at hC;exact hC
end
section
variable {C:Cx} {A:Around} {env:Env} {ρ:Rho} {σ:Store} {X:XP} {s:Shared}
theorem Z3g{h:Heap}:∀{vs:List Value} {ps:List (Int×Int)},VRs h vs (ps.map pv)->∃fs,KatTups h vs fs∧fs.length=ps.length∧∀v∈fs,∃i t,v=Value.int i t
 | vs,[],r=>by obtain rfl:=r.nilI;exact⟨[],trivial,rfl,fun v hv=>(nomatch hv)⟩
 | vs,p::ps,r=>by
  obtain⟨_,_,rfl,r1,r2⟩:=r.consI
  obtain⟨fs,k,l,f⟩:=Z3g r2
  obtain⟨a,t,u,n,rfl,e⟩:=r1.pv_at
  refine⟨.int p.1 t::fs,⟨⟨a,_,_,n,rfl,e,rfl,rfl,rfl⟩,k⟩,by simp[l],fun v hv=>?_⟩
  rcases List.mem_cons.mp hv with rfl|hv
  ·exact⟨_,_,rfl⟩
  ·exact f v hv
end
section
variable {C:Cx} {A:Around} {env:Env} {ρ:Rho} {σ:Store} {X:XP} {s:Shared}
theorem CallWP.minPairs{l:Addr} {ps:List (Int×Int)} {Q:pV} (hh:A.handled=none) (hu:A.units+1<cLine) (hl:LstAt C σ l (ps.map pv)) (hne:0<ps.length) (h:∀p,p∈ps->(∀q∈ps,lexlt q p=false)->Q (pv p) σ) :
  CallWP C A (.builtin "min") [.ref l] σ Q X:=by
 intro s vs S r
 obtain⟨_,rfl,r1⟩:=r.one
 obtain rfl:=r1.refI
 obtain⟨items,il,rl⟩:=hl.raw S
 have el:=rl.length
 simp only[Array.length_toList,List.length_map]at el
 have at_:∀(i:Nat) (v:Value) (p:Int×Int),items[i]?=some v->ps[i]?=some p->VR s.heap v (pv p):=fun i v p hv hp=>by
  obtain⟨u,hu',ru⟩:=rl.get (i:=i) (y:=pv p) (by simp[hp])
  have:u=v:=by simpa [hv] using hu'.symm
  exact this▸ru
 refine Z25 hh hu il el hne (fun i v p hv hp=>(at_ i v p hv hp).pv_at) fun v p h' tk ⟨i,hi,hv,hp⟩ hmin kp=>?_
 exact⟨pv p,σ,h p (List.mem_of_getElem? hp) hmin,(at_ i v p hv hp).mono fun _ _ _ e=>kp _ _ e,S.ext kp,.ext kp⟩
theorem Rho.gp_miss4{x1 x2 x3 x4 y:Str} {v1 v2 v3 v4:V} {u:Option V} {r:Rho} (h1:y≠x1) (h2:y≠x2) (h3:y≠x3) (h4:y≠x4) (k:Rho.get r y=u):Rho.get (Rho.put (Rho.put (Rho.put (Rho.put r x1 v1) x2 v2) x3 v3) x4 v4) y=u:=
 Rho.gp_miss h4 (Rho.gp_miss h3 (Rho.gp_miss h2 (Rho.gp_miss h1 k)))
noncomputable def AttrWP (C:Cx) (x:V) (name:Str) (σ1:Store) (Q:pV):Prop:=∃a c dx es y attr,x=.ref a∧σ1 a=some (.inst c dx)∧σ1 dx=some (.sd es)∧sget es name=some y∧plainGet C.K c name=true∧hasDictIn C.K c=true∧
   findIn C.K (.ref c) name=some attr∧noGet C.K attr=true∧(∀i,y≠.blt i)∧Q y σ1
theorem Ev.attr'{o:Expr} {name:Str} {pos:Pos} {Q:pV} (h:Ev C A env o ρ σ (fun x σ1=>AttrWP C x name σ1 Q) X)
  (hbase:attributeBase o name env (eval o env)=eval o env:=by kernel_rfl):Ev C A env (.Attribute o name pos) ρ σ Q X:=Ev.attr h hbase
theorem AttrWP.mk{a c dx:Addr} {es:List (Str×V)} {y:V} {attr:Option Value} {name:Str} {Q:pV} (h1:σ a=some (.inst c dx)) (h2:σ dx=some (.sd es)) (h3:sget es name=some y) (k1:plainGet C.K c name=true) (k2:hasDictIn C.K c=true) (k3:findIn C.K (.ref c) name=some attr) (k4:noGet C.K attr=true) (k5:∀i,y≠.blt i) (h:Q y σ):AttrWP C (.ref a) name σ Q:=by
 revert C σ a c dx es y attr name Q;k_extra "e10";intro C σ a c dx es y attr name Q h1 h2 h3 k1 k2 k3 k4 k5 h
 exact(⟨a,c,dx,es,y,attr,rfl,h1,h2,h3,k1,k2,k3,k4,k5,h⟩)
noncomputable def MethWP (C:Cx) (A:Around) (env:Env) (pos:Pos) (args:List Expr) (ρ:Rho) (x:V) (name:Str) (σ1:Store) (Q:pV) (X:XP):Prop:=∃a c dx es f,x=.ref a∧σ1 a=some (.inst c dx)∧σ1 dx=some (.sd es)∧sget es name=none∧plainGet C.K c name=true∧
   findIn C.K (.ref c) name=some (some (.ref f))∧isFn C.K (.ref f)=true∧keepIn C.K (.ref f)=true∧Ags C A env pos args ρ σ1 (fun xs σ2=>CallWP C A (.ref f) (.ref a::xs) σ2 Q X) X
theorem Ev.meth'{o:Expr} {name:Str} {apos pos:Pos} {args:List Expr} {Q:pV}
  (h:Ev C A env o ρ σ (fun x σ1=>MethWP C A env pos args ρ x name σ1 Q X) X)
  (he:eval (.Call (.Attribute o name apos) args [] pos) env=(do
   let ov ←eval o env
   standAt apos.atName
   let (f,first) ←holding [ov] (getMethod ov name (do return (←importBound o env).getD true))
   callWith pos f first (backTo pos (starEach args env)) (backToKw pos (keywordEach [] env))):=by kernel_rfl)
  (hst:(backTo pos (starEach args env)).any (·.1)=false:=by kernel_rfl):Ev C A env (.Call (.Attribute o name apos) args [] pos) ρ σ Q X:=Ev.meth h he hst
theorem MethWP.mk{a c dx f:Addr} {es:List (Str×V)} {name:Str} {pos:Pos} {args:List Expr} {Q:pV} (h1:σ a=some (.inst c dx)) (h2:σ dx=some (.sd es)) (h3:sget es name=none) (k1:plainGet C.K c name=true) (k2:findIn C.K (.ref c) name=some (some (.ref f))) (k3:isFn C.K (.ref f)=true) (k4:keepIn C.K (.ref f)=true) (h:Ags C A env pos args ρ σ (fun xs σ2=>CallWP C A (.ref f) (.ref a::xs) σ2 Q X) X):MethWP C A env pos args ρ (.ref a) name σ Q X:=by
 revert C A env ρ σ X a c dx f es name pos args Q;k_extra "e15";intro C A env ρ σ X a c dx f es name pos args Q h1 h2 h3 k1 k2 k3 k4 h
 exact(⟨a,c,dx,es,f,rfl,h1,h2,h3,k1,k2,k3,k4,h⟩)
noncomputable def SAttWP (C:Cx) (x:V) (name:Str) (y:V) (σ1:Store) (Q:Store->Prop):Prop:=∃a c dx es,x=.ref a∧σ1 a=some (.inst c dx)∧σ1 dx=some (.sd es)∧es.length≤1000∧
   findIn C.K (.ref c) "__setattr__" = some (some (.builtin "object.__setattr__"))∧plainOver C.K c=true∧takerIn C.K c name=some none∧hasDictIn C.K c=true∧Q (σ1.upd dx (.sd (sput es name y)))
theorem Asg.attr'{o:Expr} {name:Str} {pos:Pos} {y:V} {Q:Rho->Store->Prop} (h:Ev C A env o ρ σ (fun x σ1=>SAttWP C x name y σ1 (fun σ2=>Q ρ σ2)) X):Asg C A env (.Attribute o name pos) y ρ σ Q X:=Asg.attr h
theorem SAttWP.mk{a c dx:Addr} {es:List (Str×V)} {y:V} {name:Str} {Q:Store->Prop} (h1:σ a=some (.inst c dx)) (h2:σ dx=some (.sd es)) (h3:es.length≤1000) (k1:findIn C.K (.ref c) "__setattr__" = some (some (.builtin "object.__setattr__")))
  (k2:plainOver C.K c=true) (k3:takerIn C.K c name=some none) (k4:hasDictIn C.K c=true) {es':List (Str×V)} (hp:sput es name y=es') (h:Q (σ.upd dx (.sd es'))):SAttWP C (.ref a) name y σ Q:=
 ⟨a,c,dx,es,rfl,h1,h2,h3,k1,k2,k3,k4,hp▸h⟩
theorem Z4Q{x:Str} {v:V}:sput [] x v=[(x,v)]:=rfl
theorem Z4R{x:Str} {u v:V} {r:List (Str×V)}:sput ((x,u)::r) x v=(x,v)::r:=by simp[sput]
theorem Z46{x y:Str} {u v:V} {r r':List (Str×V)} (h:x≠y) (k:sput r x v=r'):sput ((y,u)::r) x v=(y,u)::r':=by simp[sput,h,k]
theorem Z4S{x:Str}:sget [] x=none:=rfl
noncomputable def CodC (C:Cx) (A:Around) (f:Value) (args:List V) (σ:Store) (Q:pV):Prop:=
 ∀s vs,St C σ s->VRs s.heap vs args->codeAny C.M A (.call f ⟨vs,[]⟩) (fun r s'=>match r with|.ok (.ret v)=>EP C σ s.heap Q v s'|_=>False) s
theorem CodC.fn{f:Addr} {o:Obj} {fd:FuncData} {body:List Stmt} {names:List Str} {args:List V} {Q:pV} (ho:C.h₀.get? f=some o) (hd:o.data=.func fd) (hlim:C.h₀.NoLimit) (hcd:C.h₀.CodeRec fd.code fd.qualname) (hbody:fd.body=.stmts body) (hbind:∀vals:List Value,vals.length=args.length->bindArgs fd ⟨vals,[]⟩=pure (names.zip vals)) (hclo:fd.closure=[]) (nd:names.Nodup) (hkind:∀x∈names,fd.scope.names.lookup x=some .local∨(fd.scope.names.lookup x=some .cell∧∀L,((cellsFrom L fd.scope.names []).lookup x).isSome=true)) (hroom:A.depth<recursionLimit) (hsc:Zc fd.scope=true) (hco:fd.scope.isCoroutine=false) (hgen:fd.scope.isGenerator=false) (hk:fd.scope.kind=.function) (h:∀L,Exs C (A.deeper (callEnvC fd L f)) (callEnvC fd L f) body (names.zip args) σ (fun g _ σ'=>Q g.val σ') (fun _ _=>False)):CodC C A (.ref f) args σ Q:=by
 revert C A σ f o fd body names args Q;k_extra "e10";intro C A σ f o fd body names args Q ho hd hlim hcd hbody hbind hclo nd hkind hroom hsc hco hgen hk h
 intro s vs S r
 have hk':∀b o,C.h₀.get? b=some o->s.heap.get? b=some o:=S.base
 refine codeAny_call_cells (fd:=fd) hroom (hk' _ _ ho) hd (hlim.keeps hk') (hcd.keeps hk') hbody (hbind vs r.length) hclo ?_ (fun s₁ x=>?_) hco hgen hk
 ·intro y hy
  rcases hkind y.1 (List.of_mem_zip hy).1 with q|⟨q,q'⟩
  ·exact .inl q
  ·exact .inr ⟨q,q' _⟩
 ·obtain⟨S₁,F₁,keep⟩:=S.callee r nd hk hsc x
  refine wpAny_mono (h s.heap.objs.size s₁ S₁ F₁) (fun fl s' z=>?_) (fun _ _ z=>z.elim)
  have y:=EP.ret S keep (fun n c hc=>x.above n c (mem_of_lookup hc)) z
  cases fl<;>exact y
theorem CodC.def{f:Addr} {name qual:Str} {params:Arguments} {body:List Stmt} {scope:Scope} {dV kV doc pm cdv ct oc:Value} {an od:Option Addr} {osl:Array (Option Value)} (names:List Str) {args:List V} {Q:pV}
  (ho:C.K.lookup f=some ⟨oc,od,.func (fnOf name qual params body scope dV kV doc pm an cdv ct),osl⟩) (hcd:codeIn C.K cdv qual=true)
  (hroom:A.depth<recursionLimit)
  (hbind:∀vals:List Value,vals.length=args.length->bindArgs (fnOf name qual params body scope dV kV doc pm an cdv ct) ⟨vals,[]⟩=pure (names.zip vals)) (nd:names.Nodup)
  (hkind:(names.all fun y=>scope.names.lookup y==some .local||scope.names.lookup y==some .cell)=true) (hsc:Zc scope=true) (hco:scope.isCoroutine=false) (hgen:scope.isGenerator=false) (hk:scope.kind=.function)
  (h:∀L A',A'.handled=A.handled->A'.depth=A.depth+1->A'.units=A.units+3->Exs C A' (fE scope qual f cdv L) body (names.zip args) σ (fun g _ σ'=>Q g.val σ') (fun _ _=>False)) :
  CodC C A (.ref f) args σ Q:=by
 refine CodC.fn (C.KX _ _ ho) rfl C.lim (codeRec_of C.KX hcd) rfl hbind rfl nd (fun x hx=>?_) hroom hsc hco hgen hk (fun L=>h L _ rfl rfl rfl)
 have:=List.all_eq_true.mp hkind x hx
 rcases Bool.or_eq_true_iff.mp this with q|q
 ·exact .inl (by simpa using q)
 ·have q':scope.names.lookup x=some .cell:=by simpa using q
  exact .inr ⟨q',fun L=>cellsFrom_some _ _ _ (.inl q')⟩
theorem CodC.def1(x1:Str) {f:Addr} {name qual:Str} {params:Arguments} {body:List Stmt} {scope:Scope} {dV kV doc pm cdv ct oc:Value} {an od:Option Addr} {osl:Array (Option Value)} {v1:V} {Q:pV}
  (ho:C.K.lookup f=some ⟨oc,od,.func (fnOf name qual params body scope dV kV doc pm an cdv ct),osl⟩) (hcd:codeIn C.K cdv qual=true) (hroom:A.depth<recursionLimit)
  (hbind:∀u1:Value,bindArgs (fnOf name qual params body scope dV kV doc pm an cdv ct) ⟨[u1],[]⟩=pure [(x1,u1)]) (nd:([x1]:List Str).Nodup)
  (hkind:(([x1]:List Str).all fun y=>scope.names.lookup y==some .local||scope.names.lookup y==some .cell)=true) (hsc:Zc scope=true) (hco:scope.isCoroutine=false) (hgen:scope.isGenerator=false) (hk:scope.kind=.function)
  (h:∀L A',A'.handled=A.handled->A'.depth=A.depth+1->A'.units=A.units+3->Exs C A' (fE scope qual f cdv L) body [(x1,v1)] σ (fun g _ σ'=>Q g.val σ') (fun _ _=>False)) :
  CodC C A (.ref f) [v1] σ Q:=
 CodC.def [x1] (args:=[v1]) ho hcd hroom (fun vals hl=>by obtain⟨u1,t1,rfl,h1⟩:=lenS hl;obtain rfl:=List.eq_nil_of_length_eq_zero h1;exact hbind u1) nd hkind hsc hco hgen hk h
theorem CodC.def3(x1 x2 x3:Str) {f:Addr} {name qual:Str} {params:Arguments} {body:List Stmt} {scope:Scope} {dV kV doc pm cdv ct oc:Value} {an od:Option Addr} {osl:Array (Option Value)} {v1 v2 v3:V} {Q:pV}
  (ho:C.K.lookup f=some ⟨oc,od,.func (fnOf name qual params body scope dV kV doc pm an cdv ct),osl⟩) (hcd:codeIn C.K cdv qual=true) (hroom:A.depth<recursionLimit)
  (hbind:∀u1 u2 u3:Value,bindArgs (fnOf name qual params body scope dV kV doc pm an cdv ct) ⟨[u1,u2,u3],[]⟩=pure [(x1,u1),(x2,u2),(x3,u3)]) (nd:([x1,x2,x3]:List Str).Nodup)
  (hkind:(([x1,x2,x3]:List Str).all fun y=>scope.names.lookup y==some .local||scope.names.lookup y==some .cell)=true) (hsc:Zc scope=true) (hco:scope.isCoroutine=false) (hgen:scope.isGenerator=false) (hk:scope.kind=.function)
  (h:∀L A',A'.handled=A.handled->A'.depth=A.depth+1->A'.units=A.units+3->Exs C A' (fE scope qual f cdv L) body [(x1,v1),(x2,v2),(x3,v3)] σ (fun g _ σ'=>Q g.val σ') (fun _ _=>False)) :
  CodC C A (.ref f) [v1,v2,v3] σ Q:=
 CodC.def [x1,x2,x3] (args:=[v1,v2,v3]) ho hcd hroom (fun vals hl=>by obtain⟨u1,t1,rfl,h1⟩:=lenS hl;obtain⟨u2,t2,rfl,h2⟩:=lenS h1;obtain⟨u3,t3,rfl,h3⟩:=lenS h2;obtain rfl:=List.eq_nil_of_length_eq_zero h3;exact hbind u1 u2 u3) nd hkind hsc hco hgen hk h
theorem CallWP.cls{c fI:Addr} {args:List V} {Q:pV} (hm:makesIn C.K c=true) (hi:findIn C.K (.ref c) "__init__" = some (some (.ref fI))) (hf:typeIn C.K (.ref fI)=some (.type "function"))
  (h:∀a dx A',σ a=none->σ dx=none->a≠dx->A'.handled=A.handled->A'.depth=A.depth+1->A'.units≤A.units+2->CodC C A' (.ref fI) (.ref a::args) ((σ.upd dx (.sd [])).upd a (.inst c dx)) (fun v σ'=>v=.none∧Q (.ref a) σ')) :
  CallWP C A (.ref c) args σ Q X:=by
 intro s vs S r
 obtain⟨hh,g,d,t,os⟩:=s
 refine wpAny_call ?_
 obtain⟨S2,e2⟩:=S.new (t:=t) (x:=emptyDict) (o:=.sd []) ⟨[],Heap.DictOf.new _,.nil⟩
 have hsz:=Z2b hh emptyDict
 obtain⟨S3,e3⟩:=S2.new (t:=t) (x:=instObj c hh.objs.size) (o:=.inst c hh.objs.size) (Heap.get?_push_size _ rfl)
 dsimp only at S3 e3 hsz
 rw[hsz]at S3 e3
 have hne:hh.objs.size+1≠hh.objs.size:=Nat.succ_ne_self _
 have hfr:σ (hh.objs.size+1)=none:=S.fresh' (Nat.le_succ _)
 refine make_core (makes_of S.K hm) (looks_findIn S.K hi) (fun self=>bind_fn S.K self hf) (.inl rfl) ?_
 refine codeAny_mono (h (hh.objs.size+1) hh.objs.size (A.under (.builtin "type.__call__" ⟨.ref c::vs,[]⟩)) hfr S.fresh hne rfl rfl (Nat.add_le_add_left (show(Code.builtin "type.__call__" ⟨.ref c::vs,[]⟩).cUnits≤2 from Nat.le_of_ble_eq_true rfl) _) _ (.ref (hh.objs.size+1)::vs) S3 (.cons (.ref _) (r.mono (e2.trans e3).tup))) ?_
 rintro(e|f) s' z
 ·exact z.elim
 ·cases f<;>first|exact False.elim z|skip
  obtain⟨x,σ',⟨rfl,q⟩,rv,S',e'⟩:=z
  cases rv
  exact⟨rfl,.ref _,σ',q,.ref _,S',(e2.trans e3).trans e'⟩
theorem Z15{α:Type} (xs:List α):∀(k n:Nat),k+n≤xs.length->((List.range n).map fun i=>k+i).filterMap (xs[·]?)=(xs.drop k).take n
 | k,0,_=>by simp
 | k,n+1,h=>by
  have hk:k<xs.length:=by exact Y5s h
  have ih:=Z15 xs (k+1) n (by exact Y5t h)
  rw[List.range_succ_eq_map,List.map_cons,List.map_map,List.filterMap_cons]
  have e0:xs[k+0]?=some xs[k]:=by simp[hk]
  rw[e0]
  have e1:(List.range n).map ((fun i=>k+i)∘Nat.succ)=(List.range n).map fun i=>k+1+i:=List.map_congr_left fun i _=>by simp only[Function.comp];exact Y5u
  rw[e1,ih,List.drop_eq_getElem_cons hk,List.take_succ_cons]
theorem Z2E{α:Type} (xs:List α) (k:Nat) (h:k≤xs.length):Zp xs (some (k:Int)) none=xs.drop k:=by
 unfold Zp
 have e:sliceBounds (some (k:Int)) none none xs.length=(((k:Nat):Int),((xs.length:Nat):Int),1):=by
  simp only[sliceBounds,Option.getD_none]
  have:¬((k:Int)<0):=by exact Y5v
  simp[this];exact Y5w h
 rw[e]
 simp only
 rw[sliceRange_one,Z15 xs k (xs.length-k) (by exact Y5x h)]
 exact List.take_of_length_le (by simp)
noncomputable def idel (es:List (Int×V)) (k:Int):List (Int×V):=es.filter fun p=>!decide (p.1=k)
theorem PR.without{K:Type} [DecidableEq K] {h:Heap} {x:K}:∀{kvs:List (K×Value)} {es:List (K×V)},PR h kvs es->PR h (without kvs x) (es.filter fun p=>!decide (p.1=x))
 | _,_,.nil=>.nil
 | _,_,.cons (k:=k) r rs=>by
  have ih:=PR.without (x:=x) rs
  unfold PySem.without at ih ⊢
  simp only[ne_eq,decide_not]at ih ⊢
  by_cases q:k=x
  ·subst q;simpa using ih
  ·simp only[List.filter_cons,q,decide_false,Bool.not_false,if_true]
   exact .cons r ih
set_option tactic.hygienic true in
theorem CallWP.idpop{d:Addr} {es:List (Int×V)} {k:Int} {y:V} {Q:pV} (hd:σ d=some (.id es)) (hz:es.length≤sizeLine) (hy:iget es k=some y) (h:Q y (σ.upd d (.id (idel es k)))):CallWP C A (.builtin "dict.pop") [.ref d,.int k] σ Q X:=by
 revert C A σ X d es k y Q;k_extra "e9";intro C A σ X d es k y Q hd hz hy h
 intro s vs S r
 obtain⟨_,_,rfl,r1,r2⟩:=r.two
 obtain rfl:=r1.refI
 obtain⟨_,rfl⟩:=r2.intI
 rename_i t
 obtain⟨kvs,D,pr⟩:=S.rep _ _ hd
 obtain⟨u,hu,ru⟩:=pr.find (x:=k) (y:=y) hy
 refine call_meetsIn PySem.F.slot_dict_pop D.typeIs PySem.F.entry_dict_pop (PySem.F.args_dict_pop_2 _ _) (meets_dict_pop_there (intKind C.prog C.w) d (k:=k) (key:=.int k t) (by show(k==k)=true;simp) [] (.inl rfl) rfl) ⟨kvs,u,D,by rw[pr.length];exact hz,hu,fun h' D' sb=>?_⟩
 have tk:TupKeep s.heap h':=Z6 sb (S.rep _ _ hd).notTup
 obtain⟨S2,e2⟩:=S.set (t:=s.toks+1) (o':=.id (idel es k)) hd sb ⟨_,D',(pr.mono tk).without⟩
 exact⟨y,_,h,ru.mono tk,S2,e2⟩
end
end Mine
set_option maxHeartbeats 4000000
namespace Mine
open PySem PySem.W PySem.SeqAt PyProof.Rows PySem.Calls
noncomputable def CodeAt (h:Heap) (c:Addr) (q:Str):Prop:=∃o vs t,h.get? c=some o∧o.cls=.type "code" ∧o.data=.fields vs∧vs[1]?=some (.str q t)
theorem CodeAt.mono{h h':Heap} {c:Addr} {q:Str} (x:CodeAt h c q) (k:TupKeep h h'):CodeAt h' c q:=
 let ⟨o,vs,t,e,h1,h2,h3⟩:=x;⟨o,vs,t,k _ _ (.inr (.inr ⟨h1,vs,h2⟩)) e,h1,h2,h3⟩
theorem CodeAt.rec'{h:Heap} {c:Addr} {q:Str} (x:CodeAt h c q):h.CodeRec (.ref c) q:=
 let ⟨o,vs,t,e,h1,h2,h3⟩:=x;⟨c,o,vs,t,rfl,e,h2,h3⟩
noncomputable def LamAt (h:Heap) (f:Addr) (params:Arguments) (body:Expr) (scope:Scope) (clos:List (Str×Addr)) (q:Str):Prop:=
 ∃pm c' ctv,h.get? f=some (kla_obj "<lambda>" q params body scope clos pm c' ctv)∧CodeAt h c' q
noncomputable def BMod (C:Cx):Prop:=∃bm ob,C.mg "__builtins__" = some (.ref bm)∧bm≠builtinsNs∧C.h₀.get? bm=some ob∧ob.cls=.type "module" ∧ob.dict=some builtinsNs∧ob.data=.plain
section
variable {C:Cx} {A:Around} {env:Env} {ρ:Rho} {σ:Store} {X:XP} {s:Shared}
theorem LamAt.evo{σ':Store} {h h':Heap} {f:Addr} {params:Arguments} {body:Expr} {scope:Scope} {clos:List (Str×Addr)} {q:Str} (x:LamAt h f params body scope clos q) (e:Evo σ h σ' h') (hf:σ f=none):LamAt h' f params body scope clos q:=
 let ⟨pm,c',ctv,ho,hc⟩:=x;⟨pm,c',ctv,(e.keep _ _ ho hf).exact fun _ _ z=>(by cases z),hc.mono e.tup⟩
theorem Z4T{E:XP} {c P:Addr} {params:Arguments} {body:Expr} {lsc:Scope} {lpos:Pos} {fl:Nat} {clos:List (Str×Addr)} {q:Str} {Q:pS} (S:St C σ s) (hcode:env.code=.ref c) (hg0:env.globals=mainGlobals) (hcl:closureFor lsc env=pure clos) (Cd:CodeHd C.h₀ c P) (hP:σ P=some (.tab lpos q)) (hB:BMod C) (h:∀f s2,St C σ s2->Evo σ s.heap σ s2.heap->σ f=none->LamAt s2.heap f params body lsc clos q->Q (.ref f) s2) :
  wpAny C.M A (makeFunction "<lambda>" q params (.expr body) lsc env [] [] [] lpos fl) Q E s:=by
 revert C A env σ s E c P params body lsc lpos fl clos q Q;k_extra "e15";intro C A env σ s E c P params body lsc lpos fl clos q;k_extra "e1";intro Q S hcode hg0 hcl Cd hP hB h
 have hg:s.heap.Ns mainGlobals C.mg:=C.hg.keeps S.base
 have Cs:=Cd.keeps S.base
 obtain⟨bm,ob,b1,b2,b3,b4,b5,b6⟩:=hB
 have hPb:C.h₀.get? P=none:=(S.above _ _ hP).1
 have hbP:bm≠P:=fun z=>by rw[z,hPb]at b3;cases b3
 have hbG:bm≠mainGlobals:=fun z=>by
  obtain⟨o,es,ep,e,hd,_⟩:=C.hg
  rw[z,e]at b3;cases b3;rw[hd]at b6;cases b6
 have hgP:mainGlobals≠P:=fun z=>by
  obtain⟨o,es,ep,e,hd,_⟩:=C.hg
  rw[z,hPb]at e;cases e
 have hbs:=S.base _ _ b3
 rcases S.rep _ _ hP with e|⟨c',o,vs,t,e,e2,h1,h2,h3⟩
 ·have fin:∀c' ctv h' tk,Heap.ExtBut P s.heap h'->s.heap.objs.size≤c'->CodeAt h' c' q->h'.get? P=some (tabObj (#[]++#[rawInt lpos.line,rawInt lpos.col,.ref c']))->
    Q (.ref h'.objs.size) { s with heap:=h'.push (kla_obj "<lambda>" q params body lsc clos ((C.mg "__name__").getD .none) c' ctv),toks:=tk }:=fun c' ctv h' tk hx hge hc hp=>by
   have kp:∀b o,¬b=P->s.heap.get? b=some o->h'.get? b=some o:=fun b o z w=>hx b o z w
   have nt:∀b o,b=P->s.heap.get? b=some o->¬Imm o:=fun b o z=>by subst z;exact(S.rep _ _ hP).notTup o
   have tk':TupKeep s.heap h':=Zt (ow:=fun b=>b=P) kp nt
   have S1:St C σ { s with heap:=h',toks:=tk }:=by
    refine⟨fun b o w=>kp b o (fun z=>by rw[z,hPb]at w;cases w) (S.base b o w),fun a o w=>?_,S.above,S.gens,S.os⟩
    by_cases z:a=P
    ·subst z
     rw[hP]at w;cases w
     obtain⟨oc,vs,t,z1,z2,z3,z4⟩:=hc
     exact .inr ⟨c',oc,vs,t,by simpa using hp,z1,z2,z3,z4⟩
    ·exact(S.rep a o w).at (fun x hx'=>kp a x z hx') tk'
   have e1:Evo σ s.heap σ h':=⟨fun b o w n=>.inl (kp b o (fun z=>by rw[z,hP]at n;cases n) w),fun b o w=>.inl ⟨o,w⟩,fun b o w=>⟨o,w⟩,tk'⟩
   have hsz:s.heap.objs.size≤h'.objs.size:=by
    have:c'<h'.objs.size:=by obtain⟨oc,_,_,z1,_⟩:=hc;exact Heap.lt_size z1
    exact Nat.le_trans hge (Nat.le_of_lt this)
   exact h _ _ S1.push (e1.trans .push) (S.fresh' hsz) ⟨_,c',ctv,Heap.get?_push_size _ rfl,hc.mono fun _ _ _ w=>Heap.get?_push_of_some _ w⟩
  have codeAt:∀{h':Heap} {c' P':Addr},h'.CodeRec (.ref c') q->h'.TableAt c' P' #[]->CodeAt h' c' q:=fun{h' c' P'} hr ht=>by
   obtain⟨_,oc,vs,t,z,z1,z2,z3⟩:=hr
   cases z
   obtain⟨⟨o',vs',y1,y2,_⟩,_⟩:=ht
   rw[z1]at y1;cases y1
   exact⟨_,vs,t,z1,y2,z2,z3⟩
  rw[makeFunction_eq]
  simp only[List.zip_nil_right,List.filterMap_nil,List.isEmpty_nil,if_true,pure_bind]
  unfold makeTail
  rw[hcl,hg0]
  refine wpAny_bind (wpAny_pure ?_)
  cases clos with
  | nil=>
   simp only[List.isEmpty_nil,if_true]
   refine wpAny_bind (wpAny_pure ?_)
   refine wpAny_bind (wpAny_functionCodeX hcode (Cs.code e trivial) (Cs.tab e) rfl fun c' h' tk hx hge hlt _ hrec htb hnew=>?_)
   have hg':=hg.extBut hx hgP
   refine wpAny_bind (wpAny_builtinsFor hg' b1 b2 (hx _ _ hbP hbs) b4 b5 b6 ?_)
   refine wpAny_bind (wpAny_nsGet hg' ?_)
   obtain⟨P',_,_,ht'⟩:=hnew
   exact wpAny_bind (wpAny_pure (wpAny_newObj_type (fin c' .none h' tk hx hge (codeAt hrec ht') htb.2) (by size_fits)))
  | cons q0 r=>
   simp only[List.isEmpty_cons,Bool.false_eq_true,if_false]
   refine wpAny_bind (wpAny_newTextTuple ?_)
   refine wpAny_bind (wpAny_functionCodeX hcode ((Cs.keeps fun b o e=>Heap.get?_push_of_some _ e).code (Heap.get?_push_of_some _ e) trivial) ((Cs.keeps fun b o e=>Heap.get?_push_of_some _ e).tab (Heap.get?_push_of_some _ e)) rfl fun c' h' tk hx hge hlt _ hrec htb hnew=>?_)
   have hg':=(hg.push _).extBut hx hgP
   have hx':Heap.ExtBut P s.heap h':=fun b o hb' e=>hx b o hb' (Heap.get?_push_of_some _ e)
   have hge':s.heap.objs.size≤c':=Nat.le_trans (by rw[Heap.size_push];exact Y3b) hge
   refine wpAny_bind (wpAny_builtinsFor hg' b1 b2 (hx' _ _ hbP hbs) b4 b5 b6 ?_)
   refine wpAny_bind (wpAny_nsGet hg' ?_)
   obtain⟨P',_,_,ht'⟩:=hnew
   exact wpAny_bind (wpAny_pure (wpAny_newObj_type (fin c' _ h' tk hx' hge' (codeAt hrec ht') htb.2) (by size_fits)))
 ·refine kla_makeFunctionHit (mg:=C.mg) (cv:=.ref c') hcl hg0 hg hcode Cs e (by simp[TriplesOk,rawInt]) (by simp[codeAmong,rawInt]) ⟨bm,ob,b1,b2,hbG,hbP,hbs,b4,b5,b6⟩ fun ctv h' tk hk hsz=>?_
  have S1:St C σ { s with heap:=h',toks:=tk }:=S.ext hk
  exact h _ _ S1.push ((Evo.ext hk).trans .push) (S.fresh' hsz) ⟨_,c',ctv,Heap.get?_push_size _ rfl,o,vs,t,Heap.get?_push_of_some _ (hk _ _ e2),h1,h2,h3⟩
noncomputable def Z5b (scope:Scope):Bool:=scope.names.all fun p=>p.2 != .cell&&(p.2 != .free||scope.names.lookup p.1==some .free)
theorem Z4U{params:Arguments} {body:Expr} {lsc:Scope} {q pn:Str} {f:Addr} {v:Value} {x:V} {ρc:Rho} {E:XP} {Q:pV} (S:St C σ s) (F:Fm C σ s.heap env ρ) (hf:LamAt s.heap f params body lsc (clOf env.cells lsc.names []) q) (rv:VR s.heap v x) (hroom:A.depth<recursionLimit) (hbind:∀pm cdv ctv,bindArgs (kla_fn "<lambda>" q params body lsc (clOf env.cells lsc.names []) pm cdv ctv) ⟨[v],[]⟩=pure [(pn,v)]) (hco:lsc.isCoroutine=false) (hgen:lsc.isGenerator=false) (hk:lsc.kind=.function) (hpn:lsc.names.lookup pn=some .local) (hok:Z5b lsc=true) (hfree:(lsc.names.all fun p=>p.2 != .free||(env.cells.lookup p.1).isSome)=true) (cap:Capt ρ lsc.names ρc) (h:∀L' cdv A',A'.handled=A.handled->A'.units≤A.units+3->Ev C A' (mkE lsc L' (clOf env.cells lsc.names []) (q++".<locals>.") (some f) cdv (some L')) body ((pn,x)::ρc) σ Q (fun _ _=>False)) :
  wpAny C.M A (call (.ref f) [v]) (EP C σ s.heap Q) E s:=by
 revert C A env ρ σ s params body lsc q pn f v x ρc E Q;k_extra "e15";intro C A env ρ σ s params body lsc q pn f v x ρc;k_extra "e2";intro E Q S F hf rv hroom hbind hco hgen hk hpn hok hfree cap h
 have names_of:∀p∈lsc.names,p.2≠.cell∧(p.2=.free->lsc.names.lookup p.1=some .free):=fun p hp=>by
  have:=List.all_eq_true.mp hok p hp
  simp only[Bool.and_eq_true,bne_iff_ne,ne_eq,Bool.or_eq_true,beq_iff_eq]at this
  refine⟨this.1,fun e=>?_⟩
  rcases this.2 with z|z
  ·exact absurd e z
  ·exact z
 have cl_of:∀y c,(clOf env.cells lsc.names []).lookup y=some c->env.cells.lookup y=some c∧lsc.names.lookup y=some .free:=fun y c hy=>by
  rcases Z14 (mem_of_lookup hy) with z|⟨z,e⟩
  ·cases z
  ·have h1:=List.all_eq_true.mp hfree _ z
   have h2:(env.cells.lookup y).isSome=true:=by simpa using h1
   obtain⟨c',hc'⟩:=Option.isSome_iff_exists.mp h2
   rw[hc']at e
   exact⟨by rw[hc',e];rfl,(names_of _ z).2 rfl⟩
 obtain⟨pm,c',ctv,ho,hcd⟩:=hf
 refine wpAny_call (kla_callFunE hroom ho rfl hco hgen rfl hcd.rec' ?_)
 rw[hbind]
 refine wpAny_pure (wpAny_newFunctionEnv (fun p hp=>(names_of p hp).1) (fun y hy=>by rw[List.mem_singleton.mp hy];exact hpn) (fun h₁ hns hsb=>⟨((C.lim).keeps S.base).fresh _ hsb,?_⟩) hk)
 have kp:∀b o,s.heap.get? b=some o->h₁.get? b=some o:=fun b o e=>hsb.extBut b o (Nat.ne_of_lt (Heap.lt_size e)) (Heap.get?_push_of_some _ e)
 have e1:Evo σ s.heap σ h₁:=.ext kp
 have F1:=F.evo e1
 have F2:Fm C σ h₁ (mkE lsc s.heap.objs.size (clOf env.cells lsc.names []) (q++".<locals>.") (some f) (.ref c') (some s.heap.objs.size)) ((pn,x)::ρc):=by
  refine⟨hk,⟨_,hns,fun y w hy hw=>?_⟩,S.fresh,S.size,fun y c hy=>?_,fun y c hy=>?_,fun y z c hy hz=>?_⟩
  ·have hw':(if y=pn then some x else Rho.get ρc y)=some w:=hw
   by_cases z:y=pn
   ·subst z
    rw[if_pos rfl]at hw';cases hw'
    exact⟨v,by simp[List.lookup],rv.mono e1.tup⟩
   ·rw[if_neg z]at hw'
    have h1:=(names_of _ (cap.get hw').2).2 rfl
    have h2:lsc.names.lookup y=some .local:=hy
    rw[h1]at h2;cases h2
  ·obtain⟨h1,h2⟩:=cl_of y c hy
   obtain⟨ov,a,b⟩:=F1.cell y c h1
   refine⟨ov,a,fun w hw=>?_⟩
   have hw':(if y=pn then some x else Rho.get ρc y)=some w:=hw
   by_cases z:y=pn
   ·rw[z,hpn]at h2;cases h2
   ·rw[if_neg z]at hw'
    exact b w (cap.get hw').1
  ·obtain⟨h1,_⟩:=cl_of y c hy
   obtain⟨n1,n2,n3⟩:=F.ncell y c h1
   obtain⟨ov,a,b⟩:=F.cell y c h1
   exact⟨n1,Nat.ne_of_lt a.lt,n3⟩
  ·exact F.apart y z c (cl_of y c hy).1 (cl_of z c hz).1
 refine kla_codeExpr (wpAny_mono (h s.heap.objs.size (.ref c') (A.deeper (mkE lsc s.heap.objs.size (clOf env.cells lsc.names []) (q++".<locals>.") (some f) (.ref c') (some s.heap.objs.size))) rfl (Nat.le_refl _) { s with heap:=h₁,toks:=s.toks+1 } (S.ext (t:=s.toks+1) kp) F2) (fun w s' z=>?_) fun _ _ z=>z.elim)
 exact z.after e1
theorem Z2F{ks:List Int} {vs:List Value} (h:IntsAre vs ks) {i:Nat} (hi:i<vs.length):∃t,vs.getD i Value.none=.int (ks.getD i 0) t:=by
 induction h generalizing i with
 | nil=>simp at hi
 | cons a u r ih=>
  cases i with
  | zero=>exact⟨u,rfl⟩
  | succ i=>simpa using ih (i:=i) (by simpa using hi)
set_option tactic.hygienic true in
theorem Z3E{l f:Addr} {xs:List V} {key:V->Int} {params:Arguments} {body:Expr} {lsc:Scope} {clos:List (Str×Addr)} {q:Str} {Q:pV} (S:St C σ s) (F:Fm C σ s.heap env ρ) (hl:LstAt C σ l xs) (h64:xs.length<64) (hfn:σ f=none) (hL:LamAt s.heap f params body lsc clos q) (turn:∀x∈xs,∀s2 v,St C σ s2->Fm C σ s2.heap env ρ->LamAt s2.heap f params body lsc clos q->VR s2.heap v x->wpAny C.M A.in1.in1 (call (.ref f) [v]) (EP C σ s2.heap (fun k σ3=>σ3=σ∧k=.int (key x))) (fun _ _=>False) s2) (h:∀(a:Addr) (p:List Nat),σ a=none->p.Perm (List.range xs.length)->p.Pairwise (slt fun i j=>decide (key (xs.getD i .none)<key (xs.getD j .none)))->Q (.ref a) (σ.upd a (.list (p.map fun i=>xs.getD i .none)))) :
  wpAny C.M A (call (.builtin "sorted") [.ref l] [(Str.ofString "key",.ref f)]) (EP C σ s.heap Q) X s:=by
 revert C A env ρ σ X s l f xs key params body lsc clos q Q;k_extra "e15";intro C A env ρ σ X s l f xs key params body lsc clos;k_extra "e2";intro q Q S F hl h64 hfn hL turn h
 obtain⟨⟨vs⟩,il,rl⟩:=hl.raw S
 simp only at rl
 have el:=rl.length
 refine call_function_entry_kw kind_sorted plain_sorted entry_sorted (ksk_s1 _ _) ?_
 unfold Builtin.«sorted»
 refine wpAny_bind (m:=checkCount "sorted" 1 1 _) (wpAny_pure ?_)
 refine wpAny_bind (collect_list il ?_ (by rw[sizeLine_eq];exact Y5z h64 el))
 refine wpAny_bind (wpAny_newList ?_ (by rw[sizeLine_eq];exact Y5z h64 el))
 have hsz:((s.heap.push (seqObj "list" #[] 0)).update s.heap.objs.size (Obj.mapSeq (·++vs.toArray))).objs.size=s.heap.objs.size+1:=by
  rw[Heap.size_update,size_push']
 generalize hH:((s.heap.push (seqObj "list" #[] 0)).update s.heap.objs.size (Obj.mapSeq (·++vs.toArray))).push (seqObj "list" vs.toArray 0)=H
 have hHs:H.objs.size=s.heap.objs.size+2:=by rw[←hH,size_push',hsz]
 have hoL:H.get? (s.heap.objs.size+1)=some (seqObj "list" vs.toArray 0):=by
  rw[←hH,←hsz];exact Heap.get?_push_size _ rfl
 have keep:∀b o,s.heap.get? b=some o->H.get? b=some o:=fun b o q=>by
  have hlt:b<s.heap.objs.size:=Heap.lt_size q
  rw[←hH,Heap.get?_push_ne _ _ _ (by rw[hsz];exact Nat.ne_of_lt (Nat.lt_succ_of_lt hlt)),Heap.get?_update_ne _ _ _ _ (Nat.ne_of_lt hlt),Heap.get?_push_ne _ _ _ (Nat.ne_of_lt hlt)]
  exact q
 have old:∀b o,s.heap.get? b=some o->b≠s.heap.objs.size+1:=fun b o e=>Nat.ne_of_lt (Nat.lt_succ_of_lt (Heap.lt_size e))
 show wpAny _ _ _ _ _ { s with heap:=H }
 rw[hsz]
 generalize hLL:s.heap.objs.size+1=LL at *
 have hLsz:s.heap.objs.size≤LL:=by exact Y5A hLL
 refine wpAny_bind (wpAny_holding (wpAny_call_entry_kw slot_list_sort ⟨_,hoL,rfl⟩ entry_list_sort ?_ (ksk_l1 _ _)))
 rw[ksk_t1]
 unfold ksk_tree
 refine wpAny_bind (listItems_at hoL rfl ?_)
 refine wpAny_bind (listUpdate_at hoL rfl ?_ (by rw[List.size_toArray,sizeLine_eq];exact Y5z h64 el) (Nat.zero_le _))
 obtain⟨e1,ho1⟩:∃e1,(H.update LL (Obj.mapSeq fun _=>(#[]:Array Value))).get? LL=some (seqObj "list" #[] e1):=⟨_,get?_update_seq hoL fun _=>#[]⟩
 refine wpAny_bind (seqEpoch_at ho1 rfl ?_)
 refine wpAny_bind (wpAny_newTuple ?_ (by show vs.length≤_;rw[sizeLine_eq];exact Y5z h64 el))
 refine wpAny_bind (wpAny_newList ?_ (Nat.zero_le _))
 have hks:((H.update LL (Obj.mapSeq fun _=>(#[]:Array Value))).push (seqObj "tuple" vs.toArray 0)).objs.size=s.heap.objs.size+3:=by rw[size_push',Heap.size_update,hHs]
 generalize hG:((H.update LL (Obj.mapSeq fun _=>(#[]:Array Value))).push (seqObj "tuple" vs.toArray 0)).push (seqObj "list" #[] 0)=G
 have hGL:G.get? LL=some (seqObj "list" #[] e1):=by rw[←hG];exact Heap.get?_push_of_some _ (Heap.get?_push_of_some _ ho1)
 have hGk:G.get? (s.heap.objs.size+3)=some (seqObj "list" #[] 0):=by rw[←hG,←hks];exact Heap.get?_push_size _ rfl
 have hGo:∀b o,s.heap.get? b=some o->G.get? b=some o:=fun b o e=>by
  rw[←hG];exact Heap.get?_push_of_some _ (Heap.get?_push_of_some _ ((Heap.get?_update_other _ _ (Ne.symm (old b o e))).trans (keep b o e)))
 refine wpAny_holding ?_
 show wpAny _ _ (ksk_rest LL (.ref f) false vs.toArray e1 (.ref _)) _ _ { s with heap:=G }
 rw[hks]
 generalize hkS:s.heap.objs.size+3=kS at *
 have hKs:s.heap.objs.size≤kS:=by exact Y5B hkS
 have hKL:kS≠LL:=by exact Y5C hLL hkS
 have hσL:σ LL=none:=S.fresh' hLsz
 have hσk:σ kS=none:=S.fresh' hKs
 have oldk:∀b o,s.heap.get? b=some o->b≠kS:=fun b o e z=>by have:=Heap.lt_size e;rw[z]at this;exact absurd this (Nat.not_lt.mpr hKs)
 have frk:C.h₀.get? kS=none:=by
  cases z:C.h₀.get? kS with
  | none=>rfl
  | some o=>exact absurd rfl (oldk _ _ (S.base _ _ z))
 have frL:C.h₀.get? LL=none:=by
  cases z:C.h₀.get? LL with
  | none=>rfl
  | some o=>exact absurd rfl (old _ _ (S.base _ _ z))
 unfold ksk_rest
 refine wpAny_bind (wpAny_rule ?_)
 first
  | rw[List.forIn_toArray]
  | (rw[←Array.forIn_toList];simp only[List.toList_toArray])
  | rw[←Array.forIn_toList]
 refine wpAny_bind (ksk_fold (fun i s'=>∃kA e,St C σ s'∧Evo σ s.heap σ s'.heap∧s'.heap.get? LL=some (seqObj "list" #[] e1)∧s'.heap.get? kS=some (seqObj "list" kA e)∧IntsAre kA.toList ((xs.take i).map key)) vs 0 { s with heap:=G }
  ⟨#[],0,S.ext (t:=s.toks) hGo,.ext hGo,hGL,hGk,by simpa using IntsAre.nil⟩ ?step ?done)
 case step=>
  rintro j x s' hx ⟨kA,e,S',E',hL',hk',hI⟩
  simp only[Nat.zero_add]at hI ⊢
  obtain⟨y,hy,ry⟩:=rl.get' hx
  have hzk:kA.size≤64:=by
   have h1:=hI.length
   simp only[Array.length_toList,List.length_map,List.length_take]at h1
   exact Y5D h64 h1
  refine wpAny_bind (wpAny_attempt (wpAny_mono (turn y (List.mem_of_getElem? hy) s' x S' (F.evo E') (hL.evo E' hfn) (ry.mono E'.tup)) (fun k s'' he=>?_) fun _ _ hF=>hF.elim))
  obtain⟨kx,σ3,⟨rfl,rfl⟩,rk,S2,E2⟩:=he
  cases rk
  rename_i tk
  have hL2:=(E2.keep _ _ hL' hσL).exact fun _ _ z=>(by cases z)
  have hk2:=(E2.keep _ _ hk' hσk).exact fun _ _ z=>(by cases z)
  obtain⟨c2,hc2⟩:∃c2,(s''.heap.update kS (Obj.mapSeq (·.push (Value.int (key y) tk)))).get? kS=some (seqObj "list" (kA.push (.int (key y) tk)) c2):=⟨_,get?_update_seq hk2 (·.push (.int (key y) tk))⟩
  try dsimp only
  refine wpAny_bind (listUpdate_at hk2 rfl ?_ (by rw[sizeLine_eq];exact Y5E hzk) (Nat.le_trans (Nat.le_of_eq (Array.size_push ..)) (by rw[sizeLine_eq];exact Y5F hzk)))
  have kp:∀b o,¬b=kS->s''.heap.get? b=some o->(s''.heap.update kS (Obj.mapSeq (·.push (Value.int (key y) tk)))).get? b=some o:=fun b o z w=>(Heap.get?_update_other _ _ (Ne.symm z)).trans w
  have nt:∀b o,b=kS->s''.heap.get? b=some o->¬Imm o:=fun b o z w=>by subst z;rw[hk2]at w;cases w;exact Imm.not (by simp) (by simp) (by simp)
  refine wpAny_pure ⟨rfl,kA.push (.int (key y) tk),c2,S2.ow (t:=s''.toks) (ow:=fun b=>b=kS) kp nt (fun b z=>z▸hσk) (fun b z=>z▸frk),(E'.trans E2).ow (ow:=fun b=>b=kS) kp (fun b z=>?_),kp _ _ (Ne.symm hKL) hL2,hc2,?_⟩
  ·subst z;exact get?_fresh' hKs
  ·have ea:(kA.push (Value.int (key y) tk)).toList=kA.toList++[Value.int (key y) tk]:=by simp
   rw[ea,List.take_add_one,hy]
   simpa using ksk_snoc hI
 case done=>
  rintro s' ⟨kA,e,S',E',hL',hk',hI⟩
  have hI':IntsAre kA.toList (xs.map key):=by
   rwa [List.take_of_length_le (by exact Y5G el)]at hI
  have hkl:kA.toList.length=vs.length:=by rw[hI'.length,List.length_map,el]
  have hks2:kA.size=vs.length:=by simpa using hkl
  try dsimp only
  refine wpAny_bind (listItems_at hk' rfl ?_)
  have fin:∀(p:List Nat) (st:SortSt),(arrOf st).map (·.2)=(p.map fun i=>vs.getD i Value.none).toArray->failedOf st=none->p.Perm (List.range vs.length)->p.Pairwise (slt fun i j=>decide ((xs.map key).getD i 0<(xs.map key).getD j 0))->
    wpAny C.M A.in1.in1 (ksk_tail LL false e1 (.ref kS) st) (fun fin s'=>∃v,fin=.done (.ret v)∧(fun _ s'=>wpAny C.M A.in1 (pure (PySem.Fin.done (.ret (.ref LL)))) (fun fin s'=>∃v,fin=.done (.ret v)∧EP C σ s.heap Q v s') X s') v s') X s':=by
   intro p st hout hf hp hs
   have hlen:p.length=vs.length:=by simpa using hp.length_eq
   unfold ksk_tail
   try dsimp only
   refine wpAny_bind (listUpdate_at hk' rfl ?_ (by rw[sizeLine_eq];exact Y5H h64 el hks2) (Nat.zero_le _))
   refine wpAny_bind (wpAny_letGo ?_)
   have hL2:(s'.heap.update kS (Obj.mapSeq fun _=>(#[]:Array Value))).get? LL=some (seqObj "list" #[] e1):=(Heap.get?_update_other _ _ hKL).trans hL'
   refine wpAny_bind (seqEpoch_at hL2 rfl ?_)
   rw[hout,hf]
   simp only[Bool.false_eq_true,if_false,bne_self_eq_false]
   refine wpAny_bind (listUpdate_at hL2 rfl ?_ (Nat.zero_le _) (by rw[List.size_toArray,List.length_map,hlen,sizeLine_eq];exact Y5I h64 el))
   refine wpAny_pure ⟨_,rfl,wpAny_pure ⟨_,rfl,?_⟩⟩
   have kp:∀b o,¬(b=kS∨b=LL)->s'.heap.get? b=some o->((s'.heap.update kS (Obj.mapSeq fun _=>(#[]:Array Value))).update LL (Obj.mapSeq fun _=>(p.map fun i=>vs.getD i Value.none).toArray)).get? b=some o:=fun b o z w=>
    (Heap.get?_update_other _ _ (fun y=>z (.inr y.symm))).trans ((Heap.get?_update_other _ _ (fun y=>z (.inl y.symm))).trans w)
   have nt:∀b o,(b=kS∨b=LL)->s'.heap.get? b=some o->¬Imm o:=fun b o z w=>by
    rcases z with rfl|rfl
    ·rw[hk']at w;cases w;exact Imm.not (by simp) (by simp) (by simp)
    ·rw[hL']at w;cases w;exact Imm.not (by simp) (by simp) (by simp)
   have S3:St C σ { s' with heap:=(s'.heap.update kS (Obj.mapSeq fun _=>(#[]:Array Value))).update LL (Obj.mapSeq fun _=>(p.map fun i=>vs.getD i Value.none).toArray),toks:=s'.toks }:=
    S'.ow (ow:=fun b=>b=kS∨b=LL) kp nt (fun b z=>by rcases z with rfl|rfl<;>assumption) (fun b z=>by rcases z with rfl|rfl<;>assumption)
   have E3:Evo σ s.heap σ ((s'.heap.update kS (Obj.mapSeq fun _=>(#[]:Array Value))).update LL (Obj.mapSeq fun _=>(p.map fun i=>vs.getD i Value.none).toArray)):=E'.ow (ow:=fun b=>b=kS∨b=LL) kp (fun b z=>by
    rcases z with rfl|rfl
    ·exact get?_fresh' hKs
    ·exact get?_fresh' hLsz)
   have bound:∀i∈p,i<vs.length:=fun i hi=>by simpa using hp.mem_iff.mp hi
   have rr:∀u:List Nat,(∀i∈u,i<vs.length)->VRs s.heap (u.map fun i=>vs.getD i Value.none) (u.map fun i=>xs.getD i .none):=fun u=>by
    induction u with
    | nil=>exact fun _=>.nil
    | cons i u ih=>
     intro hb
     have hi:i<vs.length:=hb i (.head _)
     obtain⟨w,hw,rw'⟩:=rl.get (i:=i) (y:=xs.getD i .none) (by have hi':i<xs.length:=(by exact Y5q el hi);simp[hi'])
     have:w=vs.getD i Value.none:=by simp[hw,List.getD]
     exact .cons (show VR s.heap (vs.getD i Value.none) (xs.getD i .none) from this▸rw') (ih fun j hj=>hb j (.tail _ hj))
   obtain⟨S4,E4⟩:=S3.adopt (a:=LL) (o:=.list (p.map fun i=>xs.getD i .none)) (σ0:=σ) (h0:=s.heap) ⟨_,⟨_,get?_update_seq hL2 fun _=>_⟩,by simpa using(rr p bound).mono E3.tup⟩ (Nat.le_trans S.size hLsz) E3 (get?_fresh' hLsz)
   refine⟨.ref LL,_,h LL p hσL (el▸hp) (hs.imp_of_mem fun{i j} hi hj z=>?_),.ref _,S4,E4⟩
   have g:∀i,i<vs.length->(xs.map key).getD i 0=key (xs.getD i .none):=fun i hi=>by
    have hi':i<xs.length:=by exact Y5q el hi
    simp[hi']
   unfold slt at z ⊢
   dsimp only at z ⊢
   rw[g i (bound i hi),g j (bound j hj)]at z
   exact z
  unfold ksk_end
  try dsimp only
  simp only[Bool.false_eq_true,if_false]
  by_cases h2:vs.toArray.size<2
  ·rw[if_pos h2,if_pos h2]
   rw[List.size_toArray]at h2
   refine wpAny_bind (wpAny_pure ?_)
   rw[StateT.run_pure]
   refine wpAny_bind (wpAny_pure ?_)
   refine fin (List.range vs.length) _ ?_ rfl (List.Perm.refl _) ?_
   ·show(kA.zip vs.toArray).map (·.2)=_
    apply Array.toList_inj.mp
    refine List.ext_getElem (by simp[hks2]) fun i h1 h2=>?_
    simp at h2
    simp[h2]
   ·match vs,h2 with
    | [],_=>exact .nil
    | [v],_=>exact .cons (fun _ q=>(nomatch q)) .nil
    | _::_::_,h2=>simp at h2;exact Y3I h2
  ·rw[if_neg h2,if_neg h2]
   rw[List.size_toArray]at h2
   rw[ksk_kind hI' (by exact Y5J hks2 h2)]
   refine wpAny_bind (wpAny_pure ?_)
   have run:(kas_sort vs.length).kasWp (kas_ask C.prog C.w A.in1.in1 oneType' kA.toList) (fun p s2=>s2=s'∧p.toList.Perm (List.range vs.length)∧p.toList.Pairwise (slt fun i j=>decide ((xs.map key).getD i 0<(xs.map key).getD j 0))) s':=by
    refine Z5q (Z5N fun i=>(xs.map key).getD i 0) (fun i j C hi hj hC=>?_) (by exact Y5o h2) fun P' hp hs=>⟨rfl,hp,hs⟩
    obtain⟨t1,z1⟩:=Z2F hI' (i:=i) (by exact Y5K hkl hi)
    obtain⟨t2,z2⟩:=Z2F hI' (i:=j) (by exact Y5K hkl hj)
    unfold kas_ask
    rw[z1,z2]
    exact kat_lt_int hC
   refine wpAny_bind (wpAny_mono (kat_run (ks:=kA.toList) (vs:=vs) (Q:=fun st' s2=>s2=s'∧∃p:Array Nat,arrOf st'=p.map (kas_item (kA.toList.toArray.zip vs.toArray))∧failedOf st'=none∧p.toList.Perm (List.range vs.length)∧p.toList.Pairwise (slt fun i j=>decide ((xs.map key).getD i 0<(xs.map key).getD j 0)))
    hkl (by exact Y3J h2) (by exact Y5r h64 el) (fun p st' s2 a1 a2 a3 a4=>⟨a4.1,p,a2,a3,a4.2⟩) run) ?_ fun _ _ e=>e)
   rintro⟨⟨⟩,st'⟩ s2 ⟨rfl,p,har,hf,hp,hs⟩
   exact fin p.toList st' (kat_snds hkl har) hf hp hs
end
section
variable {C:Cx} {A:Around} {ρ:Rho} {σ:Store} {X:XP} {s:Shared}
theorem Ags.one{env:Env} {e:Expr} {pos:Pos} {R:pV} (h:Ev C A env e ρ σ R X) (he:starEach [e] env=(false,eval e env)::starEach [] env):Ags C A env pos [e] ρ σ (fun vs σ1=>∃v,vs=[v]∧R v σ1) X:=
 Ags.cons (h.mono' fun v σ1 p=>Ags.nil ⟨v,rfl,p⟩) he
theorem Ev.sortLam{sc lsc:Scope} {L c P:Addr} {cells:List (Str×Addr)} {q0 pn:Str} {fn:Option Addr} {fr:Option Addr} {e body:Expr} {params:Arguments} {lpos kp pos p1:Pos} {ρc:Rho} {Q:pV} (Cd:CodeHd C.h₀ c P) (hB:BMod C) (hroom:A.depth<recursionLimit) (hs:sc.names.lookup (Str.ofString "sorted")=some .globalImplicit) (hsk:nsIn C.K mainGlobals (Str.ofString "sorted")=some none) (cap:Capt ρ lsc.names ρc) (hdef:defaultsOf params (mkE sc L cells q0 fn (.ref c) fr)=([],[])) (hbind:∀v cl pm cdv ctv,bindArgs (kla_fn "<lambda>" (q0++"<lambda>") params body lsc cl pm cdv ctv) ⟨[v],[]⟩=pure [(pn,v)]) (hco:lsc.isCoroutine=false) (hgen:lsc.isGenerator=false) (hk:lsc.kind=.function) (hpn:lsc.names.lookup pn=some .local) (hok:Z5b lsc=true) (hfree:(lsc.names.all fun p=>p.2 != .free||(cells.lookup p.1).isSome)=true) (hev:eval (.Call (.Name (Str.ofString "sorted") p1) [e] [⟨some (Str.ofString "key"),.Lambda params body lsc lpos,kp⟩] pos) (mkE sc L cells q0 fn (.ref c) fr) =
   (do callWith pos (←eval (.Name (Str.ofString "sorted") p1) (mkE sc L cells q0 fn (.ref c) fr)) [] (backTo pos (starEach [e] (mkE sc L cells q0 fn (.ref c) fr))) (backToKw pos (keywordEach [⟨some (Str.ofString "key"),.Lambda params body lsc lpos,kp⟩] (mkE sc L cells q0 fn (.ref c) fr))))) (hst:starEach [e] (mkE sc L cells q0 fn (.ref c) fr)=(false,eval e (mkE sc L cells q0 fn (.ref c) fr))::starEach [] (mkE sc L cells q0 fn (.ref c) fr)) (h:Ev C A (mkE sc L cells q0 fn (.ref c) fr) e ρ σ (fun v σ1=>∃(l:Addr) (xs:List V) (key:V->Int),v=.ref l∧LstAt C σ1 l xs∧xs.length<64∧σ1 P=some (.tab lpos (q0++"<lambda>"))∧
   (∀x∈xs,∀L' f cdv A',A'.handled=A.handled->A'.units≤A.units+6->Ev C A' (mkE lsc L' (clOf cells lsc.names []) (q0++"<lambda>" ++ ".<locals>.") (some f) cdv (some L')) body ((pn,x)::ρc) σ1 (fun k σ3=>σ3=σ1∧k=.int (key x)) (fun _ _=>False))∧
   ∀(a:Addr) (p:List Nat),σ1 a=none->p.Perm (List.range xs.length)->p.Pairwise (slt fun i j=>decide (key (xs.getD i .none)<key (xs.getD j .none)))->Q (.ref a) (σ1.upd a (.list (p.map fun i=>xs.getD i .none)))) X) :
  Ev C A (mkE sc L cells q0 fn (.ref c) fr) (.Call (.Name (Str.ofString "sorted") p1) [e] [⟨some (Str.ofString "key"),.Lambda params body lsc lpos,kp⟩] pos) ρ σ Q X:=by
 revert C A ρ σ X sc lsc L c P cells q0 pn fn fr e body params lpos kp pos p1 ρc Q;k_extra "e15";intro C A ρ σ X sc lsc L c P cells q0 pn fn fr;k_extra "e9";intro e body params lpos kp pos p1 ρc Q Cd hB hroom hs hsk cap hdef hbind hco hgen hk hpn hok hfree hev hst h
 intro s S F
 rw[hev]
 refine wpAny_bind (wpAny_mono (Ev.nblt (Q:=fun x σ1=>x=.blt "sorted" ∧σ1=σ) hs hsk PyProof.Rows.Boot.sorted (.blt _) ⟨rfl,rfl⟩ (by decide) rfl s S F) ?_ fun _ _ z=>z)
 rintro v0 s0 ⟨x0,σ0,⟨rfl,rfl⟩,r0,S0,e0⟩
 cases r0
 refine callWith_of (P:=fun h=>∀b o,C.h₀.get? b=some o->h.get? b=some o) (by rw[hst];rfl) Kp.blt ?_
 refine evalArgs_kw2 rfl ?_ hst
 refine wpAny_mono (Ags.one (pos:=pos) h hst s0 S0 (F.evo e0)) ?_ fun _ _ z=>z
 rintro vs s1 ⟨ys,σ1,⟨v,rfl,l,xs,key,rfl,hl,h64,hP,hturn,hq⟩,r1,S1,e1⟩
 refine kwAll_cons (kla_eval hdef ?_)
 refine Z4T (c:=c) S1 rfl rfl (ZO (env:=mkE sc L cells q0 fn (.ref c) fr) hfree) Cd hP hB fun f s2 S2 e2 hfn hL=>?_
 refine kwAll_nil ⟨S2.base,?_⟩
 cases r1 with
 | cons ra rb=>
 cases ra;cases rb
 have F2:=(F.evo e0).evo (e1.trans e2)
 show wpAny C.M A (PySem.call (Value.builtin "sorted") [Value.ref l] [(Str.ofString "key",Value.ref f)]) _ _ _
 refine wpAny_mono (Z3E (X:=X) S2 F2 hl h64 hfn hL (fun x hx s3 v S3 F3 hL3 rv=>?_) hq) (fun _ _ z=>((z.after e2).after e1).after e0) fun _ _ z=>z
 exact Z4U (env:=mkE sc L cells q0 fn (.ref c) fr) S3 F3 hL3 rv hroom (fun pm cdv ctv=>hbind v _ pm cdv ctv) hco hgen hk hpn hok hfree cap fun L' cdv A' a1 a2=>hturn x hx L' f cdv A' a1 (Nat.le_trans a2 (by show A.units+1+1+3≤_;exact Y6r))
end
section
variable {C:Cx} {A:Around} {env:Env} {ρ:Rho} {σ:Store} {X:XP} {s:Shared}
theorem Ev.nfree{sc:Scope} {L:Addr} {cells:List (Str×Addr)} {q:Str} {fn:Option Addr} {cd:Value} {fr:Option Addr} {x:Str} {pos:Pos} {v:V} {Q:pV} (hk:sc.names.lookup x=some .free) (hv:ρ.get x=some v) (h:Q v σ) (hc:(cells.lookup x).isSome=true) (hd:(x==("__debug__":Str))=false) (hn:(x==("__classdict__":Str))=false) :
  Ev C A (mkE sc L cells q fn cd fr) (.Name x pos) ρ σ Q X:=by
 obtain⟨c,hc⟩:=Option.isSome_iff_exists.mp hc
 exact Ev.free hk hc hv h hd hn
theorem Exs.cut{st:Stmt} {ss:List Stmt} {Q:pW} (P:Rho->Store->Prop) (h1:Ex C A env st ρ σ (fun g ρ' σ'=>g=.next∧P ρ' σ') X) (h2:∀ρ' σ',P ρ' σ'->Exs C A env ss ρ' σ' Q X):Exs C A env (st::ss) ρ σ Q X:=
 Exs.cons (h1.mono fun g ρ' σ' ⟨e,p⟩=>by subst e;exact h2 ρ' σ' p)
noncomputable def SliceWP (C:Cx) (o:V) (a b:Option Int) (σ3:Store) (Q:pV):Prop:=
 (∃l xs,o=.ref l∧LstAt C σ3 l xs∧xs.length≤sizeLine∧∀c,σ3 c=Option.none->Q (.ref c) (σ3.upd c (.list (Zp xs a b))))∨
 (∃x,o=.str x∧x.length≤sizeLine∧Q (.str (Txt.slice x a b)) σ3)
theorem SliceWP.list{l:Addr} {xs:List V} {a b:Option Int} {Q:pV} (hl:LstAt C σ l xs) (hz:xs.length≤sizeLine) (h:∀c,σ c=Option.none->Q (.ref c) (σ.upd c (.list (Zp xs a b)))):SliceWP C (.ref l) a b σ Q:=
 .inl ⟨l,xs,rfl,hl,hz,h⟩
theorem SliceWP.str{x:Str} {a b:Option Int} {Q:pV} (hz:x.length≤sizeLine) (h:Q (.str (Txt.slice x a b)) σ):SliceWP C (.str x) a b σ Q:=.inr ⟨x,rfl,hz,h⟩
theorem IsPart.opt{v:Value} {k:Option Int} (p:IsPart v k):∃l:Option (Int×Tok),v=partValue l∧l.map (·.1)=k:=by
 cases p with
 | none=>exact⟨none,rfl,rfl⟩
 | int i t=>exact⟨some (i,t),rfl,rfl⟩
theorem Ev.slice{value:Expr} {lo hi:Option Expr} {p pos:Pos} {Q:pV} (h:Ev C A env value ρ σ (fun o σ1=>Prt C A env lo ρ σ1 (fun a σ2=>Prt C A env hi ρ σ2 (fun b σ3=>SliceWP C o a b σ3 Q) X) X) X):Ev C A env (.Subscript value (.Slice lo hi Option.none p) pos) ρ σ Q X:=by
 revert C A env ρ σ X value lo hi p pos Q;k_extra "e12";intro C A env ρ σ X value lo hi p pos Q h
 intro s S F
 rw[eval_Subscript]
 refine wpAny_bind (wpAny_mono (h s S F) ?_ fun _ _ z=>z)
 rintro o s1 ⟨x,σ1,h1,r1,S1,e1⟩
 refine wpAny_bind (wpAny_holding ?_)
 rw[arm_eval_Slice]
 refine wpAny_bind (wpAny_mono (h1.run S1 (F.evo e1)) ?_ fun _ _ z=>z)
 rintro vl s2 ⟨a,σ2,h2,p2,S2,e2⟩
 refine wpAny_bind (wpAny_holding (wpAny_mono (h2.run S2 ((F.evo e1).evo e2)) ?_ fun _ _ z=>z))
 rintro vu s3 ⟨b,σ3,(⟨l,xs,rfl,hl,hz,q⟩|⟨x,rfl,hz,q⟩),p3,S3,e3⟩
 ·cases r1
  refine wpAny_bind (wpAny_holding (wpAny_pure (wpAny_newObj_type ?_)))
  have S4:St C σ3 { s3 with heap:=s3.heap.push { cls:=.type "slice",data:=.fields #[vl,vu,.none] } }:=S3.push
  obtain⟨items,il,rl⟩:=hl.raw S4
  have e:=rl.length
  simp only[Array.length_toList]at e
  refine wpAny_bind (wpAny_standAt (ZK (.list il) (wpAny_getItem_list_slice (lo:=a) (hi:=b) (st:=none) il ⟨_,Heap.get?_push_size _ rfl,rfl,rfl⟩ p2 p3 .none (by simp) ?_ (by rw[e];exact hz))))
  obtain⟨S5,e5⟩:=S4.new (t:=s3.toks) (ZE (C:=C) (vs:=(slicePick items a b none).toList) (xs:=Zp xs a b) (by rw[Z24];unfold Zp;simp only[Array.length_toList,e];exact rl.pick _))
  refine⟨.ref _,_,q _ S4.fresh,.ref _,by simpa using S5,?_⟩
  have:=(((e1.trans e2).trans e3).trans .push).trans e5
  simpa using this
 ·cases r1
  refine wpAny_bind (wpAny_holding (wpAny_pure (wpAny_newObj_type ?_)))
  obtain⟨l,rfl,rfl⟩:=IsPart.opt p2
  obtain⟨u,rfl,rfl⟩:=IsPart.opt p3
  refine wpAny_bind (wpAny_standAt (ZK .str (wpAny_getItem_str_slice (l:=l) (u:=u) (st:=none) ⟨_,Heap.get?_push_size _ rfl,rfl,rfl⟩ rfl (post_val_or_str ⟨Nat.le_trans (Txt.slice_le x _ _) hz,fun t' k=>?_⟩))))
  exact⟨_,σ3,q,.str _ _,(S3.push).toks _,((e1.trans e2).trans e3).trans .push⟩
theorem CallWP.abs{a:Int} {Q:pV} (h:Q (.int (if a<0 then -a else a)) σ):CallWP C A (.builtin "abs") [.int a] σ Q X:=by
 intro s vs S r
 obtain⟨_,rfl,r1⟩:=r.one
 obtain⟨_,rfl⟩:=r1.intI
 exact call_abs_int fun u tk=>EP.pureT S h (.int _ _)
end
set_option tactic.hygienic true in
theorem Z2f(x:Str) (l u:Option Int) (a n:Nat) (h:a+n≤x.length) (e:Builtin.Str.strSliceIndices l u 1 x.length=(List.range n).map fun i=>a+i):(Txt.slice x l u).cps.toList=(x.cps.toList.drop a).take n:=by
 revert x l u a n;k_extra "e5";intro x l u a n h e
 have hx:x.cps.toList.length=x.length:=by simp[Str.length]
 unfold Txt.slice
 rw[e]
 split
 ·rename_i z
  simp only[List.length_map,List.length_range,beq_self_eq_true,Bool.true_and,beq_iff_eq]at z
  have:a=0:=by exact Y6b h z
  subst this
  rw[List.drop_zero,List.take_of_length_le (by exact Y6c hx z)]
 ·have e2:(List.filterMap (fun i=>x.cps[i]?) ((List.range n).map fun i=>a+i))=((List.range n).map fun i=>a+i).filterMap (x.cps.toList[·]?):=by simp
  show(List.filterMap (fun i=>x.cps[i]?) ((List.range n).map fun i=>a+i)).toArray.toList=_
  rw[e2,Z15 _ a n (by exact Y6d h hx)]
theorem Z3F(x:Str) (k:Nat) (hk:k≤x.length):(Txt.slice x none (some (k:Int))).cps.toList=x.cps.toList.take k:=by
 have e:Builtin.Str.strSliceIndices none (some (k:Int)) 1 x.length=(List.range k).map fun i=>0+i:=by
  unfold Builtin.Str.strSliceIndices
  have h1:¬((k:Int)<0):=by exact Y5v
  have h2:max 0 (min (k:Int) (x.length:Int))=((k:Nat):Int):=by exact Y5w hk
  simp only[h1,if_false,show(1:Int)>0 by decide,if_true,h2]
  have:=sliceRange_one 0 k
  simpa using this
 rw[Z2f x none (some (k:Int)) 0 k (by exact Y6e hk) e,List.drop_zero]
theorem Z3G(x:Str) (k:Nat) (hk:k≤x.length):(Txt.slice x (some (k:Int)) none).cps.toList=x.cps.toList.drop k:=by
 have hx:x.cps.toList.length=x.length:=by simp[Str.length]
 have e:Builtin.Str.strSliceIndices (some (k:Int)) none 1 x.length=(List.range (x.length-k)).map fun i=>k+i:=by
  unfold Builtin.Str.strSliceIndices
  have h1:¬((k:Int)<0):=by exact Y5v
  have h2:max 0 (min (k:Int) (x.length:Int))=((k:Nat):Int):=by exact Y5w hk
  simp only[h1,if_false,show(1:Int)>0 by decide,if_true,h2]
  exact sliceRange_one k x.length
 rw[Z2f x (some (k:Int)) none k (x.length - k) (by exact Y5x hk) e,List.take_of_length_le (by simp[hx])]
theorem Z3H(x y:Str):(x++y).cps.toList=x.cps.toList++y.cps.toList:=by
 show(x.cps++y.cps).toList=_
 simp
theorem Z1L(h:Heap):∀n,(∀b o,h.get? b=some o->b<n)->∃m,(∀b o,h.get? b=some o->b<m)∧∀k,m=k+1->∃o,h.get? k=some o
 | 0,hn=>⟨0,hn,fun k e=>by cases e⟩
 | n+1,hn=>by
  cases q:h.get? n with
  | some o=>exact⟨n+1,hn,fun k e=>by cases e;exact⟨o,q⟩⟩
  | none=>
   refine Z1L h n fun b o e=>?_
   have:=hn b o e
   rcases Nat.lt_or_eq_of_le (Nat.le_of_lt_succ this) with z|z
   ·exact z
   ·rw[z,q]at e;cases e
theorem Z2G{h:Heap}:∀{vs:List Value} {ns:List Int},IntsAre vs ns->VRs h vs (ns.map V.int)
 | [],ns,hI=>by
  cases ns with
  | nil=>exact .nil
  | cons _ _=>have:=hI.length;simp at this
 | v::vs,ns,hI=>by
  cases ns with
  | nil=>have:=hI.length;simp at this
  | cons n ns=>
   cases hI with
   | cons _ h2=>exact .cons (.int _ _) (Z2G (by assumption))
theorem glueT{prog:Program} {w:World} {s₁:Shared} {K:Frag} {p:Program} {loose:List Str} {mean:ExcName->Option Value} {mg mb:Str->Option Value} {l fa c P:Addr} {pos:Pos} {q:Str} {vs:List Value} {ns:List Int} (KX:K.In s₁.heap) (T:Top p loose mean mg mb s₁.heap) (hT:CodeHd s₁.heap c P) (hP:s₁.heap.get? P=some (tabObj #[])) (hK:noTabs K=true) (hPs:P≠sysModules) (gens:s₁.gens=#[]) (hl:s₁.heap.IsList l vs.toArray) (hI:IntsAre vs ns) (h:∀C:Cx,C.prog=prog->C.w=w->C.K=K->Zh C->Z2r C l (ns.map V.int)->CodeHd C.h₀ c P->(∃bm ob,C.mg "__builtins__" = some (.ref bm)∧bm≠builtinsNs∧C.h₀.get? bm=some ob∧ob.cls=.type "module" ∧ob.dict=some builtinsNs∧ob.data=.plain)->
   CallWP C callerA (.ref fa) [.ref l] (Store.upd (fun _=>none) P (.tab pos q)) (fun v σ'=>v=.bool true∧∃o,σ' P=some o∧∃pos' q',o=.tab pos' q') (fun _ _=>False)) :
  wpAny (model prog w) callerA (call (.ref fa) [.ref l]) (fun v s'=>v=.bool true∧OldK s₁.heap s'.heap∧s'.os=s₁.os∧AllBare s'.gens) (fun _ _=>False) s₁:=by
 revert prog w s₁ K p loose mean mg mb l fa c P pos q vs ns;k_extra "e15";intro prog w s₁ K p loose mean mg mb l fa c P pos q;k_extra "e2";intro vs ns KX T hT hP hK hPs gens hl hI h
 have hTs:TabsAt [(c,P)] s₁.heap:=fun z hz=>by
  rcases List.mem_cons.mp hz with rfl|hz
  ·exact⟨hT,hP⟩
  ·cases hz
 have hgo:=ghost_top hTs T
 obtain⟨n,hn1,hn2⟩:=Z1L (ghostOf s₁.heap [(c,P)]) (ghostOf s₁.heap [(c,P)]).objs.size fun b o e=>Heap.lt_size e
 have h0:sysModules<n:=by
  obtain⟨o,es,ep,ho,_⟩:=hgo.g
  have:=hn1 _ _ ho
  exact Nat.lt_trans (by decide) this
 have hPn:(ghostOf s₁.heap [(c,P)]).get? P=none:=hideAll_none _ (by simp)
 have:=h ⟨prog,w,ghostOf s₁.heap [(c,P)],s₁.gens,s₁.os,n,hn1,hn2,K,ghost_K hTs KX hK,mg,mb,hgo.g,hgo.b,hgo.builtins,hgo.nolimit,[P],False⟩ rfl rfl rfl (.inl ⟨h0,(fun z=>by
   rcases List.mem_cons.mp z with z|z
   ·exact hPs z.symm
   ·cases z),id⟩) ⟨vs.toArray,ghost_list hTs hl,by simpa using Z2G hI⟩ (ghost_code hTs).1 hgo.bmain s₁ [.ref l]
  ⟨fun _ _ e=>of_hideAll _ e,fun a o e=>?_,fun a o e=>?_,rfl,rfl⟩ (.cons (.ref _) .nil)
 ·refine wpAny_mono this ?_ fun _ _ z=>z
  rintro v s' ⟨x,σ',⟨rfl,o,e1,pos',q',rfl⟩,r,S,e⟩
  cases r
  have keep:∀b o,b≠P->s₁.heap.get? b=some o->s'.heap.get? b=some o:=fun b o hb e=>S.base b o (ghost_ne e (by simpa using hb))
  obtain⟨ps,hps⟩:∃ps,s'.heap.get? P=some (tabObj ps):=by
   rcases S.rep _ _ e1 with z|⟨_,_,_,_,z,_⟩
   ·exact⟨_,z⟩
   ·exact⟨_,z⟩
  refine⟨rfl,⟨fun b o eb=>?_,fun b o eb=>?_⟩,S.os,.of_eq (S.gens.trans gens)⟩
  ·by_cases hb:b=P
   ·subst hb
    rw[hP]at eb;cases eb
    exact .inr (.inl ⟨(hT.tab hP).isCodeTable,rfl,#[],ps,rfl,by rw[Array.empty_append];exact hps⟩)
   ·exact .inl (keep b o hb eb)
  ·by_cases hb:b=P
   ·subst hb;exact⟨_,hps⟩
   ·exact⟨o,keep b o hb eb⟩
 ·by_cases z:a=P
  ·subst z
   rw[Store.upd_self]at e;cases e
   exact .inl hP
  ·rw[Store.upd_ne _ _ z]at e;cases e
 ·by_cases z:a=P
  ·subst z;exact⟨hPn,.inr (.inl (by simp))⟩
  ·rw[Store.upd_ne _ _ z]at e;cases e
section
variable {C:Cx} {A:Around} {env:Env} {ρ:Rho} {σ:Store} {X:XP} {s:Shared} {l:List Env}
end
open PySem.Builtin PySem.Builtin.ObjectAttr PySem.Builtin.Getset_descriptor
section
variable {prog:Program} {w:World} {A:Around} {E:pS} {s:Shared} {K:Frag} {x D:Addr}
end
section
variable {C:Cx} {A:Around} {env:Env} {ρ:Rho} {σ:Store} {X:XP} {s:Shared}
end
open PySem.Builtin.Str
noncomputable def Zx (x:Str):List V:=x.cps.toList.map fun c=>V.str ⟨#[c]⟩
section
variable {C:Cx} {A:Around} {env:Env} {ρ:Rho} {σ:Store} {X:XP} {s:Shared}
theorem Z47{x:Str} {k:Nat} {y:V} (h:(Zx x)[k]?=some y):∃c,x.cps[k]?=some c∧y=.str ⟨#[c]⟩:=by
 unfold Zx at h
 rw[List.getElem?_map]at h
 obtain⟨c,h1,h2⟩:=Option.map_eq_some_iff.mp h
 exact⟨c,by simpa using h1,h2.symm⟩
theorem Z1M{x:Str} {k:Nat} (h:(Zx x)[k]?=none):x.cps[k]?=none:=by
 unfold Zx at h
 rw[List.getElem?_map]at h
 simpa using h
theorem Z1w{h:Heap} {it:Addr} {T:String} {x:Str} {t:Tok} {k:Nat} (hT:T="str_ascii_iterator" ∨T="str_iterator") (J:h.IsStrIter it T x t k) {o:Obj} (e:h.get? it=some o):¬Imm o:=by
 obtain⟨o',e',c,d⟩:=J
 rw[e]at e';cases e'
 rcases hT with rfl|rfl<;>exact Imm.not (by rw[c];simp) (by rw[c];simp) (by rw[c];simp)
theorem Itr.strG{target:Expr} {it:Addr} {x:Str} {t:Tok} {T:String} (hT:T="str_ascii_iterator" ∨T="str_iterator") (hh:A.handled=none) :
  Itr C A target (.ref it) (fun b=>b=it) (fun k h=>h.IsStrIter it T x t k) (fun _=>True) (Zx x) where
 frame:=fun k h h' ⟨o,e,r⟩ _ kp=>⟨o,kp it o rfl e,r⟩
 notTup:=fun k h b o' J q z=>by subst q;exact Z1w hT J z
 notD:=fun k h b o' ⟨o,e,c,d⟩ q z es n w=>by subst q;rw[e]at z;cases z;rw[d]at w;cases w
 there:=fun k h b ⟨o,e,_⟩ q=>by subst q;exact⟨o,e⟩
 more:=fun k σ s y Q X S hok hJ hx no hQ=>by
  obtain⟨c,hc,rfl⟩:=Z47 hx
  have go:∀h',h'.IsStrIter it T x t (k+1)->Heap.SameBut it s.heap h'->Q (some (.str ⟨#[c]⟩ s.toks)) { s with heap:=h',toks:=s.toks+1 }:=fun h' J' sb=>by
   have kp:∀b o,¬b=it->s.heap.get? b=some o->h'.get? b=some o:=fun b o q e=>(sb.2 b q).trans e
   refine hQ _ h' (s.toks+1) (.str _ _) kp (fun b o' q z=>?_) (fun Q' X' hq=>?_)
   ·subst q;exact Z1w hT J' z
   ·obtain⟨o,e,hc,_⟩:=id J'
    rcases hT with rfl|rfl<;>exact Zr (s:={ s with heap:=h',toks:=s.toks+1 }) e hc (by decide) (hq h' (s.toks+1) J' fun _ _ _ e=>e)
  rcases hT with rfl|rfl
  ·exact wpAny_pyNext_ascii_item hJ hc go
  ·exact wpAny_pyNext_wide_item hJ hc go
 self:=fun k s Q X hJ hq=>by
  rcases hT with rfl|rfl
  ·exact wpAny_pyIter_striter_ascii hJ hq
  ·exact wpAny_pyIter_striter_wide hJ hq
 done:=fun k σ s Q X S hok hJ hx no hQ=>by
  rcases hT with rfl|rfl
  ·exact wpAny_pyNext_ascii_end hh hJ (Z1M hx) fun h' kp=>hQ h' s.toks fun b o q e=>kp b o q e
  ·exact wpAny_pyNext_wide_end hh hJ (Z1M hx) fun h' kp=>hQ h' s.toks fun b o q e=>kp b o q e
theorem ItV.str{target:Expr} {x:Str} (hh:A.handled=none):ItV C A target (.str x) σ (Zx x) (fun _=>True):=by
 refine⟨trivial,fun s v Q X S r hQ=>?_⟩
 cases r with
 | str _ t=>
  cases ha:x.cps.all (·<128)
  ·exact wpAny_pyIter_wide ha (hQ _ _ _ _ s.toks (Itr.strG (t:=t) (.inr rfl) hh) (fun b o e=>Heap.get?_push_of_some _ e) (fun b w=>w▸Nat.le_refl _) ⟨_,Heap.get?_push_size _ rfl,rfl,rfl⟩)
  ·exact wpAny_pyIter_ascii ha (hQ _ _ _ _ s.toks (Itr.strG (t:=t) (.inl rfl) hh) (fun b o e=>Heap.get?_push_of_some _ e) (fun b w=>w▸Nat.le_refl _) ⟨_,Heap.get?_push_size _ rfl,rfl,rfl⟩)
noncomputable def inS (x y:Str):Bool:=!(Builtin.Str.occurrences x y 0 x.length 1).isEmpty
theorem CmpWP.inStr{x y:Str} {Q:pV} (h:Q (.bool (inS x y)) σ):CmpWP C A .In (.str y) (.str x) σ Q X:=by
 intro s a b S ra rb
 obtain⟨_,rfl⟩:=ra.strI
 obtain⟨_,rfl⟩:=rb.strI
 exact PyProof.Rows.in_str (EP.pure S h (.bool _))
theorem UnWP.not{x:V} {Q:pV} (h:TruWP C A x σ (fun b σ'=>Q (.bool (!b)) σ') X):UnWP C A .Not x σ Q X:=by
 intro s v S r
 refine PyProof.Rows.not_of (wpAny_mono (h s v S r) ?_ fun _ _ z=>z)
 rintro b s' ⟨σ',q,S',e'⟩
 exact⟨_,σ',q,.bool _,S',e'⟩
end
structure Led(σ:Store) (l:lO):Prop where
 nd:(l.map (·.1)).Nodup
 at_:∀p∈l,σ p.1=some p.2
theorem Led.nil{σ:Store}:Led σ []:=⟨List.nodup_nil,fun _ h=>nomatch h⟩
theorem Led.get{σ:Store} {l:lO} (L:Led σ l) (n:Nat) {x:Addr} {o:O} (h:l[n]?=some (x,o)):σ x=some o:=L.at_ (x,o) (List.mem_of_getElem? h)
theorem Led.ne{σ:Store} {l:lO} (L:Led σ l) (i j:Nat) {x y:Addr} {o o':O} (hi:l[i]?=some (x,o)) (hj:l[j]?=some (y,o')) (h:i≠j):x≠y:=by
 obtain⟨hl,a⟩:=List.getElem?_eq_some_iff.mp hi
 obtain⟨hl',b⟩:=List.getElem?_eq_some_iff.mp hj
 have nd:=List.pairwise_iff_getElem.mp L.nd
 rcases Nat.lt_or_gt_of_ne h with q|q
 ·have:=nd i j (by simpa using hl) (by simpa using hl') q
  rw[List.getElem_map,List.getElem_map,a,b]at this
  exact this
 ·have:=nd j i (by simpa using hl') (by simpa using hl) q
  rw[List.getElem_map,List.getElem_map,a,b]at this
  exact Ne.symm this
theorem Led.set{σ:Store} {l:lO} (L:Led σ l) (n:Nat) {x:Addr} {o:O} (o':O) (h:l[n]?=some (x,o)):Led (σ.upd x o') (l.set n (x,o')):=by
 obtain⟨hl,he⟩:=List.getElem?_eq_some_iff.mp h
 have hk:(l.set n (x,o')).map (·.1)=l.map (·.1):=by
  rw[List.map_set]
  show(l.map (·.1)).set n x=_
  rw[show x=(l.map (·.1))[n]'(by simpa using hl) by rw[List.getElem_map,he]]
  exact List.set_getElem_self _
 refine⟨by rw[hk];exact L.nd,fun p hp=>?_⟩
 obtain⟨i,hi⟩:=List.mem_iff_getElem?.mp hp
 by_cases e:i=n
 ·subst e
  rw[List.getElem?_set_self hl]at hi
  cases hi
  exact Store.hit
 ·rw[List.getElem?_set_ne (Ne.symm e)]at hi
  exact Store.miss (L.ne i n (x:=p.1) (o:=p.2) hi h e) (L.get i hi)
theorem Led.setS{σ:Store} {l1 l2:lO} {x:Addr} {o:O} (L:Led σ (l1++(x,o)::l2)) (o':O):Led (σ.upd x o') (l1++(x,o')::l2):=by
 have:=L.set l1.length (x:=x) (o:=o) o' (by simp)
 simpa using this
theorem Led.new{σ:Store} {l:lO} (L:Led σ l) {x:Addr} (o:O) (h:σ x=none):Led (σ.upd x o) ((x,o)::l):=by
 refine⟨?_,fun p hp=>?_⟩
 ·rw[List.map_cons,List.nodup_cons]
  refine⟨fun hm=>?_,L.nd⟩
  obtain⟨p,hp,e⟩:=List.mem_map.mp hm
  have:=L.at_ p hp
  rw[e,h]at this;cases this
 ·rcases List.mem_cons.mp hp with rfl|hp
  ·exact Store.hit
  ·exact Store.at_fresh h (L.at_ p hp)
theorem Led.free{σ:Store} {l:lO} (L:Led σ l) {x:Addr} (h:σ x=none):x∉l.map (·.1):=fun hm=>by
 obtain⟨p,hp,e⟩:=List.mem_map.mp hm
 have:=L.at_ p hp
 rw[e,h]at this;cases this
theorem Led.add{σ σ':Store} {l:lO} (L:Led σ l) (g:Grow σ σ') {x:Addr} {o:O} (h:σ x=none) (h':σ' x=some o):Led σ' ((x,o)::l):=by
 refine⟨?_,fun p hp=>?_⟩
 ·rw[List.map_cons,List.nodup_cons]
  refine⟨fun hm=>?_,L.nd⟩
  obtain⟨p,hp,e⟩:=List.mem_map.mp hm
  have:=L.at_ p hp
  rw[e,h]at this;cases this
 ·rcases List.mem_cons.mp hp with rfl|hp
  ·exact h'
  ·exact g _ _ (L.at_ p hp)
theorem Led.add3{σ σ':Store} {l:lO} (L:Led σ l) (g:Grow σ σ') {x y z:Addr} {o1 o2 o3:O} (h1:σ x=none) (h2:σ y=none) (h3:σ z=none) (n1:x≠y) (n2:x≠z) (n3:y≠z)
  (k1:σ' x=some o1) (k2:σ' y=some o2) (k3:σ' z=some o3):Led σ' ((x,o1)::(y,o2)::(z,o3)::l):=by
 have a:=L.free h1
 have b:=L.free h2
 have c:=L.free h3
 refine⟨?_,fun p hp=>?_⟩
 ·simp only[List.map_cons,List.nodup_cons,List.mem_cons,not_or]
  exact⟨⟨n1,n2,a⟩,⟨n3,b⟩,c,L.nd⟩
 ·simp only[List.mem_cons]at hp
  rcases hp with rfl|rfl|rfl|hp
  ·exact k1
  ·exact k2
  ·exact k3
  ·exact g _ _ (L.at_ p hp)
theorem Led.grow{σ σ':Store} {l:lO} (L:Led σ l) (g:Grow σ σ'):Led σ' l:=⟨L.nd,fun p hp=>g _ _ (L.at_ p hp)⟩
theorem Led.perm{σ:Store} {l l':lO} (L:Led σ l) (h:l'.Perm l):Led σ l':=⟨(h.map _).nodup_iff.mpr L.nd,fun p hp=>L.at_ p (h.mem_iff.mp hp)⟩
theorem Led.sub{σ:Store} {l l':lO} (L:Led σ l) (h:l'.Sublist l):Led σ l':=⟨(h.map _).nodup L.nd,fun p hp=>L.at_ p (h.subset hp)⟩
noncomputable def O.kind:O->Nat
 | .list _=>0
 | .sd _=>1
 | .id _=>2
 | .inst _ _=>3
 | .tab _ _=>4
 | .exc _=>5
 | .ie _ _=>6
theorem Store.ne_kind{σ:Store} {x y:Addr} {o o':O} (h1:σ x=some o) (h2:σ y=some o') (h:o.kind≠o'.kind):x≠y:=fun e=>by
 subst e;rw[h1]at h2;cases h2;exact h rfl
section
variable {C:Cx} {A:Around} {env:Env} {ρ:Rho} {σ:Store} {X:XP} {s:Shared}
noncomputable def WhQ (I:Nat->Rho->Store->Prop) (n:Nat) (Q:pW) (g:FV) (ρ:Rho) (σ:Store):Prop:=
 match g with
 | .next|.cont=>∃m,m<n∧I m ρ σ
 | .brk=>Q .next ρ σ
 | .ret v=>Q (.ret v) ρ σ
theorem WhQ.n{I:Nat->Rho->Store->Prop} {n:Nat} {Q:pW} (h:∃m,m<n∧I m ρ σ):WhQ I n Q .next ρ σ:=h
theorem Ex.while{test:Expr} {body:List Stmt} {pos:Pos} {Q:pW} (I:Nat->Rho->Store->Prop) (turn:∀n ρ σ,I n ρ σ->Tst C A env test ρ σ (fun b σ1=>if b=true then Exs C A env body ρ σ1 (WhQ I n Q) (fun _ _=>False) else Q .next ρ σ1) (fun _ _=>False)) (n:Nat) (h:I n ρ σ):Ex C A env (.While test body [] pos) ρ σ Q X:=by
 revert C A env ρ σ X test body pos Q I turn n h;k_extra "e11";intro C A env ρ σ X test body pos Q I turn n h
 intro s S F
 refine wpAny_While (codeAny_whileLoop (fun n s'=>∃ρ1 σ1,I n ρ1 σ1∧St C σ1 s'∧Fm C σ1 s'.heap env ρ1∧EvoF env σ s.heap σ1 s'.heap) ?_ n ⟨ρ,σ,h,S,F,.refl _⟩)
 rintro n s' ⟨ρ1,σ1,hI,S1,F1,e1⟩
 refine wpAny_mono (turn n ρ1 σ1 hI s' S1 F1) ?_ fun _ _ z=>z.elim
 rintro b s2 ⟨σ2,h2,S2,e2⟩
 have F2:=F1.evo e2
 have e12:=e1.trans (e2.evoF F1.own)
 cases b with
 | false=>
  simp only[Bool.false_eq_true,if_false]at h2 ⊢
  exact wpAny_execs_nil ⟨.next,ρ1,σ2,h2,.next,S2,F2,e12⟩
 | true=>
  simp only[if_true]at h2 ⊢
  refine wpAny_mono (h2 s2 S2 F2) ?_ fun _ _ z=>z.elim
  rintro f s3 ⟨g,ρ3,σ3,h3,r3,S3,F3,e3⟩
  have e13:=e12.trans e3
  cases r3 with
  | next=>obtain⟨m,hm,hI'⟩:=h3;exact⟨m,hm,ρ3,σ3,hI',S3,F3,e13⟩
  | cont=>obtain⟨m,hm,hI'⟩:=h3;exact⟨m,hm,ρ3,σ3,hI',S3,F3,e13⟩
  | brk=>exact⟨_,ρ3,σ3,h3,.next,S3,F3,e13⟩
  | ret r=>exact⟨_,ρ3,σ3,h3,.ret r,S3,F3,e13⟩
theorem ItemWP.neg2{x y:V} {Q:pV} (h:Q x σ):ItemWP C A (.tup [y,x]) (.int (-1)) σ Q X:=
 ItemWP.tup (j:=1) (by decide) (by decide) rfl rfl h
theorem ItemWP.neg3{x y z:V} {Q:pV} (h:Q x σ):ItemWP C A (.tup [z,y,x]) (.int (-1)) σ Q X:=
 ItemWP.tup (j:=2) (by decide) (by decide) rfl rfl h
end
noncomputable def ZQ (xs:List V):List V:=xs.zipIdx.map fun p=>.tup [.int (p.2:Int),p.1]
theorem Z2g{xs:List V} {k:Nat}:(ZQ xs)[k]?=(xs[k]?).map fun x=>V.tup [.int (k:Int),x]:=by
 unfold ZQ
 rw[List.getElem?_map,List.getElem?_zipIdx]
 cases xs[k]?<;>simp
section
variable {C:Cx} {A:Around} {env:Env} {ρ:Rho} {σ:Store} {X:XP} {s:Shared}
theorem Itr.enum{elts:List Expr} {k0:Nat} {tp:Pos} {e it l:Addr} {xs:List V} (hh:A.handled=none) (hei:e≠it) (hle:l≠e) (hli:l≠it) :
  Itr C A (.Tuple elts k0 tp) (.ref e) (fun b=>b=e∨b=it) (fun k h=>(∃old,IsEnum h e it k old)∧h.IsListIter it l k) (fun σ=>LstAt C σ l xs) (ZQ xs) where
 frame:=fun k h h' ⟨⟨old,he⟩,hit⟩ _ kp=>⟨⟨old,kp e _ (.inl rfl) he⟩,hit.at fun o x=>kp it o (.inr rfl) x⟩
 notTup:=fun k h b o' ⟨⟨old,he⟩,⟨o,eo,c,_⟩⟩ q z=>by
  rcases q with rfl|rfl
  ·rw[he]at z;cases z;exact Imm.not (by simp) (by simp) (by simp)
  ·rw[eo]at z;cases z;exact Imm.not (by rw[c];simp) (by rw[c];simp) (by rw[c];simp)
 notD:=fun k h b o' ⟨⟨old,he⟩,⟨o,eo,c,d⟩⟩ q z es n w=>by
  rcases q with rfl|rfl
  ·rw[he]at z;cases z;cases w
  ·rw[eo]at z;cases z;rw[d]at w;cases w
 there:=fun k h b ⟨⟨old,he⟩,⟨o,eo,_⟩⟩ q=>by
  rcases q with rfl|rfl
  ·exact⟨_,he⟩
  ·exact⟨_,eo⟩
 more:=fun k σ s x Q X S hok hJ hx no hQ=>by
  obtain⟨items,hl,hr⟩:=hok.raw S
  obtain⟨⟨old,he⟩,hit⟩:=hJ
  rw[Z2g]at hx
  obtain⟨y,hy,rfl⟩:=Option.map_eq_some_iff.mp hx
  obtain⟨u,hu,ru⟩:=hr.get hy
  refine wpAny_pyNext_enum_item he hit hl (by simpa using hu) hei fun h' ho hit' hT hsz hk=>?_
  have helt:e<s.heap.objs.size:=Heap.lt_size he
  have hilt:it<s.heap.objs.size:=by obtain⟨_,x,_⟩:=hit;exact Heap.lt_size x
  have kp:∀b o,¬(b=e∨b=it)->s.heap.get? b=some o->h'.get? b=some o:=fun b o q e'=>hk b o (fun z=>q (.inl z)) (fun z=>q (.inr z)) e'
  have tk:TupKeep s.heap h':=Zt (ow:=fun b=>b=e∨b=it) kp fun b o' q z=>by
   obtain⟨o,eo,c,_⟩:=hit
   rcases q with rfl|rfl
   ·rw[he]at z;cases z;exact Imm.not (by simp) (by simp) (by simp)
   ·rw[eo]at z;cases z;exact Imm.not (by rw[c];simp) (by rw[c];simp) (by rw[c];simp)
  refine hQ (.ref s.heap.objs.size) h' (s.toks+1) (.tup (n:=0) hT (.cons (.int _ _) (.cons (ru.mono tk) .nil))) kp (fun b o' q z=>?_) fun Q' X' hq=>?_
  ·obtain⟨o,eo,c,_⟩:=hit'
   rcases q with rfl|rfl
   ·rw[ho]at z;cases z;exact Imm.not (by simp) (by simp) (by simp)
   ·rw[eo]at z;cases z;exact Imm.not (by rw[c];simp) (by rw[c];simp) (by rw[c];simp)
  ·refine wpAny_letOwnedTupleGo_enum (s:={ s with heap:=h',toks:=s.toks+1 }) ho fun h'' he'' hs''=>?_
   refine hq h'' (s.toks+1) ⟨⟨_,by simpa using he''⟩,hit'.at fun o y=>(hs''.2 it hei.symm).trans y⟩ fun b o q y=>(hs''.2 b fun z=>q (.inl z)).trans y
 self:=fun k s Q X ⟨⟨old,he⟩,_⟩ hq=>wpAny_pyIter_enum he hq
 done:=fun k σ s Q X S hok hJ hx no hQ=>by
  obtain⟨items,hl,hr⟩:=hok.raw S
  obtain⟨⟨old,he⟩,hit⟩:=hJ
  have hn:items[k]?=none:=by
   rw[Z2g,Option.map_eq_none_iff]at hx
   have h1:=List.getElem?_eq_none_iff.mp hx
   have h2:=hr.length
   simp only[Array.length_toList]at h2
   exact Array.getElem?_eq_none_iff.mpr (by(first|lia|(first|lia|omega)))
  exact wpAny_pyNext_enum_end hh he hit hl hn fun h' hx=>hQ h' s.toks fun b o q y=>hx b o (fun z=>q (.inr z)) y
theorem VR.gtup{a:Addr} {items:List Value} {n:Nat} {vs:List V} (h:C.K.lookup a=some (Zk items.toArray n)) (r:VRs C.h₀ items vs):VR C.h₀ (.ref a) (.tup vs):=
 .tup (C.KX a _ h) (by simpa using r)
theorem Src.enum{e func:Expr} {pos:Pos} {elts:List Expr} {k0:Nat} {tp:Pos} {Q:List V->(Store->Prop)->Store->Prop} (hh:A.handled=none) (h:Ev C A env func ρ σ (fun fx σ1=>fx=.typ "enumerate" ∧Ags C A env pos [e] ρ σ1 (fun xs σ2=>∃l ys,xs=[.ref l]∧LstAt C σ2 l ys∧Q (ZQ ys) (fun σ=>LstAt C σ l ys) σ2) X) X) (hev:eval (.Call func [e] [] pos) env=(do callWith pos (←eval func env) [] (backTo pos (starEach [e] env)) (backToKw pos (keywordEach [] env))):=by kernel_rfl) (he:(backTo pos (starEach [e] env)).any (·.1)=false:=by kernel_rfl):Src C A env (.Tuple elts k0 tp) (.Call func [e] [] pos) ρ σ Q X:=by
 revert C A env ρ σ X e func pos elts k0 tp Q;k_extra "e13";intro C A env ρ σ X e func pos elts k0 tp Q hh h hev he
 intro s S F
 rw[hev]
 refine wpAny_bind (wpAny_mono (h s S F) ?_ fun _ _ z=>z)
 rintro v s1 ⟨x,σ1,⟨rfl,q⟩,r1,S1,e1⟩
 cases r1
 refine callWith_of (P:=fun h=>∀b o,C.h₀.get? b=some o->h.get? b=some o) (by rw[he];rfl) Kp.typ ?_
 refine Z1t he (wpAny_mono (q s1 S1 (F.evo e1)) ?_ fun _ _ z=>z)
 rintro vs s2 ⟨xs,σ2,⟨l,ys,rfl,hl,hq⟩,r2,S2,e2⟩
 refine⟨S2.base,?_⟩
 cases r2 with
 | cons ra rb=>
  cases rb
  cases ra
  obtain⟨items,il,rl⟩:=hl.raw S2
  have hlt:l<s2.heap.objs.size:=by obtain⟨_,z,_⟩:=il;exact Heap.lt_size z
  refine call_enumerate_list il fun h' hE hI hz kp=>?_
  refine wpAny_pyIter_enum (s:={ s2 with heap:=h' }) hE ?_
  have e12:=e1.trans e2
  have fr:∀b,(b=s2.heap.objs.size+1∨b=s2.heap.objs.size)->s2.heap.objs.size≤b:=fun b w=>by
   rcases w with w|w
   ·rw[w];exact Nat.le_succ _
   ·rw[w];exact Nat.le_refl _
  exact⟨ZQ ys,_,σ2,_,_,hq,Itr.enum hh (Nat.ne_of_gt (Nat.lt_succ_self _)) (Nat.ne_of_lt (Nat.lt_succ_of_lt hlt)) (Nat.ne_of_lt hlt),hl,S2.ext (t:=s2.toks) kp,e12.trans (.ext kp),fun b w=>⟨Evo.fresh (h':=s2.heap) S2 e12 (fr b w),S2.fresh' (fr b w)⟩,⟨⟨_,hE⟩,hI⟩⟩
theorem Src.enumN{e:Expr} {p pos:Pos} {elts:List Expr} {k0:Nat} {tp:Pos} {Q:List V->(Store->Prop)->Store->Prop} (hh:A.handled=none)
  (h:Ev C A env (.Name (Str.ofString "enumerate") p) ρ σ (fun fx σ1=>fx=.typ "enumerate" ∧Ags C A env pos [e] ρ σ1 (fun xs σ2=>∃l ys,xs=[.ref l]∧LstAt C σ2 l ys∧Q (ZQ ys) (fun σ=>LstAt C σ l ys) σ2) X) X)
  (hev:eval (.Call (.Name (Str.ofString "enumerate") p) [e] [] pos) env=(do callWith pos (←eval (.Name (Str.ofString "enumerate") p) env) [] (backTo pos (starEach [e] env)) (backToKw pos (keywordEach [] env))):=by kernel_rfl)
  (he:(backTo pos (starEach [e] env)).any (·.1)=false:=by kernel_rfl):Src C A env (.Tuple elts k0 tp) (.Call (.Name (Str.ofString "enumerate") p) [e] [] pos) ρ σ Q X:=Src.enum hh h hev he
theorem Z48{α:Type} (f:α->V) (xs:List α):ZQ (xs.map f)=xs.zipIdx.map fun p=>V.tup [.int (p.2:Int),f p.1]:=by
 unfold ZQ
 rw[List.zipIdx_map,List.map_map]
 rfl
end
section
variable {prog:Program} {w:World} {A:Around} {E:pS} {s:Shared}
theorem Z3I{P:Shared->Prop} {x:Value} {Tx:String} {tp:Addr} {cs:List Value} {vs:List Bool} {n:Nat} {tk:Tok} {s:Shared} {Q:PySem.Fin->Shared->Prop} (hP:∀s tk,P s->P { s with toks:=tk }) (hx:s.TypeIs x Tx) (htp:s.heap.get? tp=some { cls:=.type "tuple",data:=.seq cs.toArray n }) (ha:AnswersAll P x cs vs) (hs:P s) (hq:∀tk',Q (.done (.ret (.bool (vs.any id)))) { s with toks:=tk' }):wpAny (model prog w) A (Builtin.«isinstance.nested» ⟨[x,.ref tp,.int 0 tk],[]⟩) Q E s:=by
 revert prog w A E P x Tx tp cs vs n tk s Q;k_extra "e14";intro prog w A E P x Tx tp cs vs n tk s Q hP hx htp ha hs hq
 obtain⟨h,g,d,t,os⟩:=s
 have hT2:(⟨h,g,d,t,os⟩:Shared).TypeIs (.ref tp) "tuple":=⟨_,htp,rfl⟩
 have f1:=F.isi_sub_tuple
 repeat (any_goals (first|assumption|wp_step))
 refine wpAny_arrayLoop ?_
 simp only[Option.getD_some,List.toList_toArray]
 refine isinstance_items (dep:=0) hP cs vs _ _ ha hs fun tk'=>?_
 cases hv:vs.any id with
 | true=>
  simp only[if_true]
  repeat (any_goals (first|assumption|wp_step))
  exact hv▸hq tk'
 | false=>
  simp only[Bool.false_eq_true,if_false]
  repeat (any_goals (first|assumption|wp_step))
  exact hv▸hq tk'
theorem Z3h{x:Value} {Tx:String} {tp:Addr} {cs:List Value} {vs:List Bool} {n:Nat} (ha:AnswersAll (fun s=>s.TypeIs x Tx) x cs vs) :
  Meets (Builtin.«isinstance» ⟨[x,.ref tp],[]⟩)
   (fun _ R s=>s.TypeIs x Tx∧s.heap.get? tp=some { cls:=.type "tuple",data:=.seq cs.toArray n }∧∀tk,R (.ok (.ret (.bool (vs.any id)))) { s with toks:=tk }):=
 fun _ _ _ _ _ hs=>isinstance_outer (Z3I (fun _ tk h=>h.toks tk) hs.1 hs.2.1 ha hs.1 hs.2.2) (Shared.TypeIs.not_mainsLoader hs.1)
end
section
variable {C:Cx} {A:Around} {σ:Store} {X:XP}
theorem CallWP.isiLT{x:V} {t:Ty} {Q:pV} (ht:HasTy C σ x t) (h2:t=.list∨t=.tup) (h:Q (.bool true) σ):CallWP C A (.builtin "isinstance") [x,.tup [.typ "list",.typ "tuple"]] σ Q X:=by
 revert C A σ X x t Q;k_extra "e7";intro C A σ X x t Q ht h2 h
 intro s vs S r
 obtain⟨_,_,rfl,r1,r2⟩:=r.two
 have b:=ht.bears S r1
 obtain⟨tp,⟨it⟩,n,rfl,hg,hr⟩:=r2.tupI
 obtain⟨_,_,hi,q1,q2⟩:=hr.two
 simp only at hi
 subst hi
 obtain rfl:=q1.typI
 obtain rfl:=q2.typI
 rcases h2 with rfl|rfl
 ·obtain⟨a,o,rfl,e,c⟩:=b
  exact call_isinstance (Z3h (Tx:="list") (n:=n) (cs:=[.type "list",.type "tuple"]) (vs:=[true,false]) (.cons (.of_true F.isi_meta_list F.sub_list_list) (.cons (.of_false_list (by decide +kernel) F.isi_meta_tuple F.sub_list_tuple) .nil))) ⟨⟨o,e,c⟩,hg,fun tk=>EP.pureT S h (.bool _)⟩
 ·obtain⟨a,o,rfl,e,c⟩:=b
  exact call_isinstance (Z3h (Tx:="tuple") (n:=n) (cs:=[.type "list",.type "tuple"]) (vs:=[false,true]) (.cons (.of_false_tuple (by decide +kernel) F.isi_meta_list F.sub_tuple_list) (.cons (.of_true F.isi_meta_tuple F.sub_tuple_tuple) .nil))) ⟨⟨o,e,c⟩,hg,fun tk=>EP.pureT S h (.bool _)⟩
end
section
variable {C:Cx} {A:Around} {env:Env} {ρ:Rho} {σ:Store} {X:XP} {s:Shared}
theorem CallWP.max2{a b:Int} {Q:pV} (hh:A.handled=none) (h:Q (.int (max a b)) σ):CallWP C A (.builtin "max") [.int a,.int b] σ Q X:=by
 revert C A σ X a b Q;k_extra "e7";intro C A σ X a b Q hh h
 intro s vs S r
 cases r with
 | cons r1 r2=>
 obtain⟨_,rfl⟩:=r1.intI
 cases r2 with
 | cons r2 r3=>
 cases r2;cases r3
 refine max_two_ints hh fun h' tk kp=>?_
 by_cases z:b>a
 ·rw[if_pos z]
  rw[show max a b=b by omega]at h
  exact⟨_,σ,h,.int _ _,S.ext kp,.ext kp⟩
 ·rw[if_neg z]
  rw[show max a b=a by omega]at h
  exact⟨_,σ,h,.int _ _,S.ext kp,.ext kp⟩
end
section
variable {C:Cx} {A:Around} {env:Env} {ρ:Rho} {σ:Store} {X:XP}
end
section
variable {C:Cx} {A:Around} {env:Env} {ρ:Rho} {σ:Store} {X:XP} {s:Shared} {l:List Env} {D:Addr} {P:Store->Prop}
variable {Q:pW}
end
section
variable {C:Cx} {A:Around} {env:Env} {ρ:Rho} {σ:Store} {X:XP} {s:Shared} {l:List Env} {D:Addr} {P:Store->Prop}
end
section
variable {C:Cx} {A:Around} {env:Env} {ρ:Rho} {σ:Store} {X:XP} {s:Shared} {l:List Env} {D:Addr} {P:Store->Prop}
end
section
variable {C:Cx} {A:Around} {env:Env} {ρ:Rho} {σ:Store} {X:XP} {s:Shared}
end
section
variable {A:Around} {s:Shared}
end
section
variable {C:Cx} {A:Around} {σ:Store} {X:XP}
end
section
variable {C:Cx} {A:Around} {env:Env} {ρ:Rho} {σ:Store} {X:XP} {s:Shared}
end
section
variable {prog:Program} {w:World} {A:Around} {E:pS} {s:Shared}
end
section
variable {C:Cx} {A:Around} {env:Env} {ρ:Rho} {σ:Store} {X:XP} {s:Shared}
end
section
variable {C:Cx} {A:Around} {env:Env} {ρ:Rho} {σ:Store} {s:Shared} {l:List Env}
end
section
variable {C:Cx} {A:Around} {σ:Store} {X:XP} {s:Shared}
end
section
variable {C:Cx} {σ:Store}
end
theorem Z2H{P1 P2:Prop} {g:Prop} (h:P1->P2->g):(P1∧P2)->g:=fun e=>h e.1 e.2
theorem Z5O{P1 P2 P3:Prop} {g:Prop} (h:P1->P2->P3->g):(P1∧P2∧P3)->g:=fun e=>h e.1 e.2.1 e.2.2
theorem Z1N{P1 P2 P3 P4:Prop} {g:Prop} (h:P1->P2->P3->P4->g):(P1∧P2∧P3∧P4)->g:=fun e=>h e.1 e.2.1 e.2.2.1 e.2.2.2
theorem un_1_1{α:Type} {P1:α->Prop} {g:Prop} (h:∀x,P1 x->g):(∃x,P1 x)->g:=fun e=>e.elim fun x e=>h x e
theorem Z49{α:Type} {P1 P2 P3:α->Prop} {g:Prop} (h:∀x,P1 x->P2 x->P3 x->g):(∃x,P1 x∧P2 x∧P3 x)->g:=fun e=>e.elim fun x e=>h x e.1 e.2.1 e.2.2
theorem Z4a{α:Type} {P1 P2 P3 P4:α->Prop} {g:Prop} (h:∀x,P1 x->P2 x->P3 x->P4 x->g):(∃x,P1 x∧P2 x∧P3 x∧P4 x)->g:=fun e=>e.elim fun x e=>h x e.1 e.2.1 e.2.2.1 e.2.2.2
theorem Z4b{α:Type} {P1 P2 P3 P4 P5:α->Prop} {g:Prop} (h:∀x,P1 x->P2 x->P3 x->P4 x->P5 x->g):(∃x,P1 x∧P2 x∧P3 x∧P4 x∧P5 x)->g:=fun e=>e.elim fun x e=>h x e.1 e.2.1 e.2.2.1 e.2.2.2.1 e.2.2.2.2
theorem Z1O{α:Type} {P1 P2 P3 P4 P5 P6:α->Prop} {g:Prop} (h:∀x,P1 x->P2 x->P3 x->P4 x->P5 x->P6 x->g):(∃x,P1 x∧P2 x∧P3 x∧P4 x∧P5 x∧P6 x)->g:=fun e=>e.elim fun x e=>h x e.1 e.2.1 e.2.2.1 e.2.2.2.1 e.2.2.2.2.1 e.2.2.2.2.2
theorem Z2I{α:Type} {P1 P2 P3 P4 P5 P6 P7 P8:α->Prop} {g:Prop} (h:∀x,P1 x->P2 x->P3 x->P4 x->P5 x->P6 x->P7 x->P8 x->g):(∃x,P1 x∧P2 x∧P3 x∧P4 x∧P5 x∧P6 x∧P7 x∧P8 x)->g:=fun e=>e.elim fun x e=>h x e.1 e.2.1 e.2.2.1 e.2.2.2.1 e.2.2.2.2.1 e.2.2.2.2.2.1 e.2.2.2.2.2.2.1 e.2.2.2.2.2.2.2
theorem Z2J{α:Type} {P1 P2 P3 P4 P5 P6 P7 P8 P9:α->Prop} {g:Prop} (h:∀x,P1 x->P2 x->P3 x->P4 x->P5 x->P6 x->P7 x->P8 x->P9 x->g):(∃x,P1 x∧P2 x∧P3 x∧P4 x∧P5 x∧P6 x∧P7 x∧P8 x∧P9 x)->g:=fun e=>e.elim fun x e=>h x e.1 e.2.1 e.2.2.1 e.2.2.2.1 e.2.2.2.2.1 e.2.2.2.2.2.1 e.2.2.2.2.2.2.1 e.2.2.2.2.2.2.2.1 e.2.2.2.2.2.2.2.2
theorem Z5r{α:Type} {P1 P2 P3 P4 P5 P6 P7 P8 P9 P10 P11:α->Prop} {g:Prop} (h:∀x,P1 x->P2 x->P3 x->P4 x->P5 x->P6 x->P7 x->P8 x->P9 x->P10 x->P11 x->g):(∃x,P1 x∧P2 x∧P3 x∧P4 x∧P5 x∧P6 x∧P7 x∧P8 x∧P9 x∧P10 x∧P11 x)->g:=fun e=>e.elim fun x e=>h x e.1 e.2.1 e.2.2.1 e.2.2.2.1 e.2.2.2.2.1 e.2.2.2.2.2.1 e.2.2.2.2.2.2.1 e.2.2.2.2.2.2.2.1 e.2.2.2.2.2.2.2.2.1 e.2.2.2.2.2.2.2.2.2.1 e.2.2.2.2.2.2.2.2.2.2
theorem Z1P{α β:Type} {P1 P2 P3 P4:α->β->Prop} {g:Prop} (h:∀x y,P1 x y->P2 x y->P3 x y->P4 x y->g):(∃x y,P1 x y∧P2 x y∧P3 x y∧P4 x y)->g:=fun e=>e.elim fun x e=>e.elim fun y e=>h x y e.1 e.2.1 e.2.2.1 e.2.2.2
theorem Z4c{α β:Type} {P1 P2 P3 P4 P5 P6:α->β->Prop} {g:Prop} (h:∀x y,P1 x y->P2 x y->P3 x y->P4 x y->P5 x y->P6 x y->g):(∃x y,P1 x y∧P2 x y∧P3 x y∧P4 x y∧P5 x y∧P6 x y)->g:=fun e=>e.elim fun x e=>e.elim fun y e=>h x y e.1 e.2.1 e.2.2.1 e.2.2.2.1 e.2.2.2.2.1 e.2.2.2.2.2
theorem Z4d{α β:Type} {P1 P2 P3 P4 P5 P6 P7:α->β->Prop} {g:Prop} (h:∀x y,P1 x y->P2 x y->P3 x y->P4 x y->P5 x y->P6 x y->P7 x y->g):(∃x y,P1 x y∧P2 x y∧P3 x y∧P4 x y∧P5 x y∧P6 x y∧P7 x y)->g:=fun e=>e.elim fun x e=>e.elim fun y e=>h x y e.1 e.2.1 e.2.2.1 e.2.2.2.1 e.2.2.2.2.1 e.2.2.2.2.2.1 e.2.2.2.2.2.2
theorem Z4e{α β γ δ:Type} {P1 P2 P3 P4 P5 P6:α->β->γ->δ->Prop} {g:Prop} (h:∀x y z w,P1 x y z w->P2 x y z w->P3 x y z w->P4 x y z w->P5 x y z w->P6 x y z w->g):(∃x y z w,P1 x y z w∧P2 x y z w∧P3 x y z w∧P4 x y z w∧P5 x y z w∧P6 x y z w)->g:=fun e=>e.elim fun x e=>e.elim fun y e=>e.elim fun z e=>e.elim fun w e=>h x y z w e.1 e.2.1 e.2.2.1 e.2.2.2.1 e.2.2.2.2.1 e.2.2.2.2.2
theorem Z4f{α β γ δ:Type} {P1 P2 P3 P4 P5 P6 P7:α->β->γ->δ->Prop} {g:Prop} (h:∀x y z w,P1 x y z w->P2 x y z w->P3 x y z w->P4 x y z w->P5 x y z w->P6 x y z w->P7 x y z w->g):(∃x y z w,P1 x y z w∧P2 x y z w∧P3 x y z w∧P4 x y z w∧P5 x y z w∧P6 x y z w∧P7 x y z w)->g:=fun e=>e.elim fun x e=>e.elim fun y e=>e.elim fun z e=>e.elim fun w e=>h x y z w e.1 e.2.1 e.2.2.1 e.2.2.2.1 e.2.2.2.2.1 e.2.2.2.2.2.1 e.2.2.2.2.2.2
theorem Z5P{α β γ δ:Type} {P1 P2 P3 P4 P5 P6 P7 P8 P9:α->β->γ->δ->Prop} {g:Prop} (h:∀x y z w,P1 x y z w->P2 x y z w->P3 x y z w->P4 x y z w->P5 x y z w->P6 x y z w->P7 x y z w->P8 x y z w->P9 x y z w->g):(∃x y z w,P1 x y z w∧P2 x y z w∧P3 x y z w∧P4 x y z w∧P5 x y z w∧P6 x y z w∧P7 x y z w∧P8 x y z w∧P9 x y z w)->g:=fun e=>e.elim fun x e=>e.elim fun y e=>e.elim fun z e=>e.elim fun w e=>h x y z w e.1 e.2.1 e.2.2.1 e.2.2.2.1 e.2.2.2.2.1 e.2.2.2.2.2.1 e.2.2.2.2.2.2.1 e.2.2.2.2.2.2.2.1 e.2.2.2.2.2.2.2.2
section
variable {C:Cx} {A:Around} {env:Env} {ρ:Rho} {σ:Store} {X:XP}
theorem Exs.cutJ{st:Stmt} {ss:List Stmt} {Q:pW} (P:Rho->Store->Prop)
  (h1:∀J:pW,(∀ρ' σ',P ρ' σ'->J .next ρ' σ')->(∀v ρ' σ',Q (.ret v) ρ' σ'->J (.ret v) ρ' σ')->Ex C A env st ρ σ J X)
  (h2:∀ρ' σ',P ρ' σ'->Exs C A env ss ρ' σ' Q X):Exs C A env (st::ss) ρ σ Q X:=
 Exs.cons (h1 (fun g ρ' σ'=>Then C A env ss Q X g ρ' σ') (fun ρ' σ' p=>h2 ρ' σ' p) fun v ρ' σ' q=>q)
theorem ForL.invJ{α:Type} {target:Expr} {body:List Stmt} {ok:Store->Prop} {Q:pW} (enc:α->V) (I:List α->Rho->Store->Prop)
  (step:∀(J:pW) x xs,(∀ρ σ,ok σ->I xs ρ σ->J .next ρ σ)->(∀ρ σ,ok σ->I xs ρ σ->J .cont ρ σ)->(∀v ρ σ,Q (.ret v) ρ σ->J (.ret v) ρ σ)->∀ρ σ,I (x::xs) ρ σ->Asg C A env target (enc x) ρ σ (fun ρ1 σ1=>Exs C A env body ρ1 σ1 J (fun _ _=>False)) (fun _ _=>False))
  (done:∀ρ σ,I [] ρ σ->Q .next ρ σ) (xs:List α) (ρ:Rho) (σ:Store) (h:I xs ρ σ):ForL C A env target body ok Q (xs.map enc) ρ σ:=
 ForL.inv enc I (fun x xs ρ σ h=>step (LpQ ok (I xs) Q) x xs (fun _ _ a b=>⟨a,b⟩) (fun _ _ a b=>⟨a,b⟩) (fun _ _ _ q=>q) ρ σ h) done xs ρ σ h
theorem CmpL.invJ{α:Type} {x:Str} {elt:Expr} {ok:Store->Prop} {R:List V->Store->Prop} (enc:α->V) (I:List α->List V->Store->Prop)
  (step:∀(J:pV) y ys out,(∀z σ2,out.length≤sizeLine->ok σ2->I ys (out++[z]) σ2->J z σ2)->∀σ,I (y::ys) out σ->Ev C A env elt (ρ.put x (enc y)) σ J (fun _ _=>False))
  (done:∀out σ,I [] out σ->R out σ) (ys:List α) (out:List V) (σ:Store) (h:I ys out σ):CmpL C A env x [] elt ok ρ R (ys.map enc) out σ:=
 CmpL.inv enc I (fun y ys out σ h=>step _ y ys out (fun _ _ a b c=>⟨a,b,c⟩) σ h) done ys out σ h
end
noncomputable def Z4g:Expr->Bool
 | .Starred _ _=>false
 | _=>true
theorem Z2Z{e:Expr} (h:Z4g e=true) (es:List Expr) (env:Env):starEach (e::es) env=(false,eval e env)::starEach es env:=by
 cases e<;>first|rfl|cases h
noncomputable def Z5c:Expr->Bool
 | .Call _ _ _ _=>false
 | _=>true
theorem Z5s{o:Expr} (h:Z5c o=true) (name:Str) (env:Env):attributeBase o name env (eval o env)=eval o env:=by
 cases o<;>first|rfl|cases h
section
variable {C:Cx} {A:Around} {env:Env} {ρ:Rho} {σ:Store}
noncomputable def Pe (C:Cx) (A:Around) (env:Env) (ρ:Rho) (σ:Store) (e:Expr) (v:V):Prop:=∀(Q:pV) (X:XP),Q v σ->Ev C A env e ρ σ Q X
noncomputable def Pes (C:Cx) (A:Around) (env:Env) (ρ:Rho) (σ:Store) (es:List Expr) (vs:List V):Prop:=∀(pos:Pos) (Q:List V->Store->Prop) (X:XP),Q vs σ->Ags C A env pos es ρ σ Q X
noncomputable def AttP (C:Cx) (x:V) (name:Str) (σ:Store) (y:V):Prop:=∀Q:pV,Q y σ->AttrWP C x name σ Q
noncomputable def ItP (C:Cx) (A:Around) (x y:V) (σ:Store) (z:V):Prop:=∀(Q:pV) (X:XP),Q z σ->ItemWP C A x y σ Q X
noncomputable def BiP (C:Cx) (A:Around) (op:Operator) (x y:V) (σ:Store) (z:V):Prop:=∀(Q:pV) (X:XP),Q z σ->BinWP C A op x y σ Q X
noncomputable def CmP (C:Cx) (A:Around) (op:CmpOp) (x y:V) (σ:Store) (z:V):Prop:=∀(Q:pV) (X:XP),Q z σ->CmpWP C A op x y σ Q X
noncomputable def Tp (C:Cx) (A:Around) (env:Env) (ρ:Rho) (σ:Store) (e:Expr) (b:Bool):Prop:=∀(Q:Bool->Store->Prop) (X:XP),Q b σ->Tst C A env e ρ σ Q X
theorem Ev.pe{e:Expr} {v:V} {Q:pV} {X:XP} (h:Pe C A env ρ σ e v) (k:Q v σ):Ev C A env e ρ σ Q X:=h Q X k
theorem Tst.pe{e:Expr} {b:Bool} {Q:Bool->Store->Prop} {X:XP} (h:Tp C A env ρ σ e b) (k:Q b σ):Tst C A env e ρ σ Q X:=h Q X k
theorem Ags.pe{pos:Pos} {es:List Expr} {vs:List V} {Q:List V->Store->Prop} {X:XP} (h:Pes C A env ρ σ es vs) (k:Q vs σ):Ags C A env pos es ρ σ Q X:=h pos Q X k
theorem Pe.cint{i:Int} {k:Nat} {pos:Pos}:Pe C A env ρ σ (.Constant (.int i) k pos) (.int i):=fun _ _ h=>Ev.cint h
theorem Pe.cstr{i:Str} {k:Nat} {pos:Pos}:Pe C A env ρ σ (.Constant (.str i) k pos) (.str i):=fun _ _ h=>Ev.cstr h
theorem Pe.cbool{i:Bool} {k:Nat} {pos:Pos}:Pe C A env ρ σ (.Constant (.bool i) k pos) (.bool i):=fun _ _ h=>Ev.cbool h
theorem Pe.cnone{k:Nat} {pos:Pos}:Pe C A env ρ σ (.Constant .none k pos) .none:=fun _ _ h=>Ev.cnone h
theorem Pe.nloc{sc:Scope} {q:Str} {f:Addr} {cd:Value} {x:Str} {pos:Pos} {L:Addr} {v:V} (hk:sc.names.lookup x=some .local) (hv:ρ.get x=some v) (hd:(x==("__debug__":Str))=false):Pe C A (fE sc q f cd L) ρ σ (.Name x pos) v:=fun _ _ h=>Ev.nlocF hk hv h hd
theorem Pe.nlocM{sc:Scope} {L:Addr} {cells:List (Str×Addr)} {q:Str} {fn:Option Addr} {cd:Value} {fr:Option Addr} {x:Str} {pos:Pos} {v:V} (hk:sc.names.lookup x=some .local) (hv:ρ.get x=some v) (hd:(x==("__debug__":Str))=false):Pe C A (mkE sc L cells q fn cd fr) ρ σ (.Name x pos) v:=fun _ _ h=>Ev.nloc hk hv h hd
theorem Pe.ncel{sc:Scope} {q:Str} {f:Addr} {cd:Value} {x:Str} {pos:Pos} {L:Addr} {v:V} (hk:sc.names.lookup x=some .cell) (hv:ρ.get x=some v) (hd:(x==("__debug__":Str))=false) (hc:((cellsFrom (L+1) sc.names []).lookup x).isSome=true):Pe C A (fE sc q f cd L) ρ σ (.Name x pos) v:=fun _ _ h=>Ev.ncelF hk hv h hc hd
theorem Pe.nglob{sc:Scope} {q:Str} {f:Addr} {cd:Value} {x:Str} {pos:Pos} {L:Addr} {v:Value} {y:V} (hk:sc.names.lookup x=some .globalImplicit) (e:nsIn C.K mainGlobals x=some (some v)) (r:VR C.h₀ v y) (hd:(x==("__debug__":Str))=false):Pe C A (fE sc q f cd L) ρ σ (.Name x pos) y:=fun _ _ h=>Ev.nglobF hk e r h hd
theorem Pe.tup{es:List Expr} {k:Nat} {pos:Pos} {vs:List V} (h:Pes C A env ρ σ es vs) (hz:vs.length≤9000):Pe C A env ρ σ (.Tuple es k pos) (.tup vs):=fun _ _ q=>Ev.tuple (h pos _ _ ⟨by rw[sizeLine_eq];exact Nat.le_trans hz (by decide),q⟩)
theorem Pe.attr{o:Expr} {name:Str} {pos:Pos} {x y:V} (h:Pe C A env ρ σ o x) (k:AttP C x name σ y) (hb:Z5c o=true):Pe C A env ρ σ (.Attribute o name pos) y:=fun _ _ q=>Ev.attr' (h _ _ (k _ q)) (Z5s hb name env)
theorem Pe.sub{o i:Expr} {pos:Pos} {x y z:V} (h:Pe C A env ρ σ o x) (h2:Pe C A env ρ σ i y) (k:ItP C A x y σ z):Pe C A env ρ σ (.Subscript o i pos) z:=fun _ _ q=>Ev.sub (h _ _ (h2 _ _ (k _ _ q)))
theorem Pe.bin{a b:Expr} {op:Operator} {pos:Pos} {x y z:V} (h:Pe C A env ρ σ a x) (h2:Pe C A env ρ σ b y) (k:BiP C A op x y σ z):Pe C A env ρ σ (.BinOp a op b pos) z:=fun _ _ q=>Ev.bin (h _ _ (h2 _ _ (k _ _ q)))
theorem Pe.cmp{a b:Expr} {op:CmpOp} {pos:Pos} {x y z:V} (h:Pe C A env ρ σ a x) (h2:Pe C A env ρ σ b y) (k:CmP C A op x y σ z) (hm:behindInMarks op b=false):Pe C A env ρ σ (.Compare a [op] [b] pos) z:=fun _ _ q=>Ev.cmp (h _ _ (h2 _ _ (k _ _ q))) hm
theorem Pes.nil:Pes C A env ρ σ [] []:=fun _ _ _ h=>Ags.nil h
theorem Pes.cons{e:Expr} {es:List Expr} {v:V} {vs:List V} (h:Pe C A env ρ σ e v) (k:Pes C A env ρ σ es vs) (hs:Z4g e=true):Pes C A env ρ σ (e::es) (v::vs):=fun pos _ _ q=>Ags.cons (h _ _ (k pos _ _ q)) (Z2Z hs es env)
theorem AttP.mk{a c dx:Addr} {es:List (Str×V)} {y:V} {attr:Option Value} {name:Str} (h1:σ a=some (.inst c dx)) (h2:σ dx=some (.sd es)) (h3:sget es name=some y) (k1:plainGet C.K c name=true) (k2:hasDictIn C.K c=true)
  (k3:findIn C.K (.ref c) name=some attr) (k4:noGet C.K attr=true) (k5:∀i,y≠.blt i):AttP C (.ref a) name σ y:=fun _ h=>AttrWP.mk h1 h2 h3 k1 k2 k3 k4 k5 h
theorem AttP.go{x y:V} {name:Str} {Q:pV} (h:AttP C x name σ y) (k:Q y σ):AttrWP C x name σ Q:=h Q k
theorem ItP.tup0{a:V} {r:List V}:ItP C A (.tup (a::r)) (.int 0) σ a:=fun _ _ h=>ItemWP.tup0 h
theorem ItP.tup1{a b:V} {r:List V}:ItP C A (.tup (a::b::r)) (.int 1) σ b:=fun _ _ h=>ItemWP.tup1 h
theorem ItP.tup2{a b c:V} {r:List V}:ItP C A (.tup (a::b::c::r)) (.int 2) σ c:=fun _ _ h=>ItemWP.tup2 h
theorem BiP.add{a b:Int}:BiP C A .Add (.int a) (.int b) σ (.int (a+b)):=fun _ _ h=>BinWP.add_int h
theorem CmP.ne_int{a b:Int}:CmP C A .NotEq (.int a) (.int b) σ (.bool (a != b)):=fun _ _ h=>CmpWP.ne_int h
theorem CmP.lt_int{a b:Int}:CmP C A .Lt (.int a) (.int b) σ (.bool (decide (a<b))):=fun _ _ h=>CmpWP.lt_int h
theorem CmP.gt_int{a b:Int}:CmP C A .Gt (.int a) (.int b) σ (.bool (decide (b<a))):=fun _ _ h=>CmpWP.gt_int h
theorem CmP.ge_int{a b:Int}:CmP C A .GtE (.int a) (.int b) σ (.bool (decide (b≤a))):=fun _ _ h=>CmpWP.ge_int h
theorem CmP.eq_str{a b:Str}:CmP C A .Eq (.str a) (.str b) σ (.bool (a==b)):=fun _ _ h=>CmpWP.eq_str h
theorem CmP.ne_str{a b:Str}:CmP C A .NotEq (.str a) (.str b) σ (.bool (a != b)):=fun _ _ h=>CmpWP.ne_str h
theorem Tp.cmp{a b:Expr} {op:CmpOp} {pos:Pos} {x y:V} {c:Bool} (h:Pe C A env ρ σ a x) (h2:Pe C A env ρ σ b y) (k:CmP C A op x y σ (.bool c)) (hm:behindInMarks op b=false):Tp C A env ρ σ (.Compare a [op] [b] pos) c:=fun _ _ q=>Tst.cmp (h _ _ (h2 _ _ (k _ _ (TruWP.bool q)))) hm
end
section
variable {C:Cx} {A:Around} {σ:Store} {X:XP}
theorem Grow.none0{σ σ':Store} (g:Grow σ σ') {x:Addr} (h:σ' x=Option.none):σ x=Option.none:=by
 cases e:σ x with
 | none=>rfl
 | some o=>rw[g _ _ e]at h;cases h
theorem CmpWP.neInts{l m:Addr} {w:List Int} {Q:pV} (h1:LstAt C σ l (w.map V.int)) (h2:LstAt C σ m (w.map V.int)) (hu:A.units<9000) (h:Q (.bool false) σ):CmpWP C A .NotEq (.ref l) (.ref m) σ Q X:=by
 refine CmpWP.neSame (d:=.list (w.map PyData.int)) (.list h1 (DRs.map fun _ _=>.int _)) (.list h2 (DRs.map fun _ _=>.int _)) (Z5 fun _ _=>by simp[PyData.canLay0]) ?_ h
 have:=ZL (k:=1) (g:=PyData.int) (xs:=w) (fun _ _=>by simp[PyData.depth])
 simp only[PyData.depth,cLine];(first|lia|(first|lia|omega))
end
section
variable {C:Cx} {A:Around} {env:Env} {ρ:Rho} {σ:Store} {l:List Env} {D:Addr} {P:Store->Prop}
end
abbrev Z1Q(pos:Pos) (args:List Expr) (env:Env):Prop:=false=(backTo pos (starEach args env)).any (·.1)
abbrev Z5d(o:Expr) (name:Str) (env:Env):Prop:=eval o env=attributeBase o name env (eval o env)
abbrev kFew(pos:Pos) (args:List Expr) (env:Env):Prop:=true=((backTo pos (starEach args env)).all (fun x=>!x.1)&&(backToKw pos (keywordEach [] env)).all (fun x=>x.1.isSome)
   && decide (args.length+([]:List Keyword).length+(if ([]:List Keyword).isEmpty then 0 else 1)<30))
abbrev Z6z(apos pos:Pos):Prop:=true=(apos.endLine==pos.line)
abbrev Z5e(o:Expr) (name:Str) (apos pos:Pos) (args:List Expr) (env:Env):Prop:=eval (.Call (.Attribute o name apos) args [] pos) env=(do
   let ov ←eval o env
   standAt apos.atName
   let (f,first) ←holding [ov] (getMethod ov name (do return (←importBound o env).getD true))
   callWith pos f first (backTo pos (starEach args env)) (backToKw pos (keywordEach [] env)))
abbrev Z5f(func:Expr) (args:List Expr) (pos:Pos) (env:Env):Prop:=eval (.Call func args [] pos) env=(do callWith pos (←eval func env) [] (backTo pos (starEach args env)) (backToKw pos (keywordEach [] env)))
abbrev Z6A(e:Expr) (es:List Expr) (env:Env):Prop:=starEach (e::es) env=(false,eval e env)::starEach es env
abbrev kA1(t value:Expr) (pos:Pos) (env:Env):Prop:=pure false=swapsWithSole [t] value pos.line env
abbrev kA2(t value:Expr) (env:Env):Prop:=pure none=swappedStores [t] value env
abbrev kA3(t:Expr) (env:Env):Prop:=[assign t env]=(assignEach [t] env).map (·.2)
abbrev kE1(env:Env):Prop:=false=interactive env
abbrev kE2(e:Expr) (pos:Pos) (env:Env):Prop:=pure false=swapsWith e none pos.line env
abbrev kVal(e:Expr) (env:Env):Prop:=isTrue e env (eval e env)=(do let v ←eval e env;standAt e.pos;holding [v] (truthy v))
section
variable {C:Cx} {A:Around} {env:Env} {ρ:Rho} {σ:Store} {X:XP}
theorem Ev.bmethS{o:Expr} {name:Str} {apos pos:Pos} {args:List Expr} {T id:String} {Q:pV} (pa:PlainAttrs T) (slot:Slot T name id) (hty:typeOf (.builtin id)=Pure.pure (.type "method_descriptor"))
  (h:Ev C A env o ρ σ (fun x σ1=>TyV C σ1 x T∧Ags C A env pos args ρ σ1 (fun xs σ2=>CallWP C A (.builtin id) (x::xs) σ2 Q X) X) X)
  (hbase:Z5d o name env:=by kernel_rfl) (hfew:kFew pos args env:=by kernel_rfl) (hline:Z6z apos pos:=by kernel_rfl) (hst:Z1Q pos args env:=by kernel_rfl):Ev C A env (.Call (.Attribute o name apos) args [] pos) ρ σ Q X:=
 Ev.bmeth pa slot hty h hbase.symm hfew.symm hline.symm hst.symm
theorem Ev.methS{o:Expr} {name:Str} {apos pos:Pos} {args:List Expr} {Q:pV} (h:Ev C A env o ρ σ (fun x σ1=>MethWP C A env pos args ρ x name σ1 Q X) X)
  (he:Z5e o name apos pos args env:=by kernel_rfl) (hst:Z1Q pos args env:=by kernel_rfl):Ev C A env (.Call (.Attribute o name apos) args [] pos) ρ σ Q X:=Ev.meth' h he hst.symm
theorem Ags.consS{pos:Pos} {e:Expr} {es:List Expr} {Q:List V->Store->Prop} (h:Ev C A env e ρ σ (fun x σ1=>Ags C A env pos es ρ σ1 (fun xs σ2=>Q (x::xs) σ2) X) X)
  (he:Z6A e es env:=by kernel_rfl):Ags C A env pos (e::es) ρ σ Q X:=Ags.cons h he
theorem Ex.assignS{t value:Expr} {pos:Pos} {Q:pW} (h:Ev C A env value ρ σ (fun x σ1=>Asg C A env t x ρ σ1 (fun ρ' σ'=>Q .next ρ' σ') X) X)
  (hs:kA1 t value pos env:=by kernel_rfl) (hw:kA2 t value env:=by kernel_rfl) (ht:kA3 t env:=by kernel_rfl):Ex C A env (.Assign [t] value pos) ρ σ Q X:=Ex.assign h hs.symm hw.symm ht.symm
theorem Ex.exprS{e:Expr} {pos:Pos} {Q:pW} (h:Ev C A env e ρ σ (fun x σ1=>Q .next ρ σ1) X)
  (hi:kE1 env:=by kernel_rfl) (hs:kE2 e pos env:=by kernel_rfl):Ex C A env (.Expr e pos) ρ σ Q X:=Ex.expr h hi.symm hs.symm
theorem Tst.valS{e:Expr} {Q:Bool->Store->Prop} (h:Ev C A env e ρ σ (fun x σ1=>TruWP C A x σ1 Q X) X) (he:kVal e env:=by kernel_rfl):Tst C A env e ρ σ Q X:=Tst.val h he
theorem Ev.attrS{o:Expr} {name:Str} {pos:Pos} {Q:pV} (h:Ev C A env o ρ σ (fun x σ1=>AttrWP C x name σ1 Q) X) (hbase:Z5d o name env:=by kernel_rfl):Ev C A env (.Attribute o name pos) ρ σ Q X:=Ev.attr' h hbase.symm
end
section
variable {C:Cx} {A:Around} {env:Env} {ρ:Rho} {σ:Store} {X:XP}
noncomputable def CallBK (C:Cx) (A:Around) (env:Env) (X:XP) (pos:Pos) (args:List Expr) (ρ:Rho) (Q:pV) (fx:V) (σ1:Store):Prop:=
 ∃f,(fx=.blt f∧Ags C A env pos args ρ σ1 (fun xs σ2=>CallWP C A (.builtin f) xs σ2 Q X) X)∨(fx=.typ f∧Ags C A env pos args ρ σ1 (fun xs σ2=>CallWP C A (.type f) xs σ2 Q X) X)
theorem Ev.callBT{func:Expr} {args:List Expr} {pos:Pos} {Q:pV} (h:Ev C A env func ρ σ (CallBK C A env X pos args ρ Q) X)
  (hev:Z5f func args pos env:=by kernel_rfl) (he:Z1Q pos args env:=by kernel_rfl):Ev C A env (.Call func args [] pos) ρ σ Q X:=Ev.callB h hev he.symm
theorem CallBK.b{f:String} {pos:Pos} {args:List Expr} {Q:pV} (h:Ags C A env pos args ρ σ (fun xs σ2=>CallWP C A (.builtin f) xs σ2 Q X) X):CallBK C A env X pos args ρ Q (.blt f) σ:=⟨_,.inl ⟨rfl,h⟩⟩
theorem CallBK.t{f:String} {pos:Pos} {args:List Expr} {Q:pV} (h:Ags C A env pos args ρ σ (fun xs σ2=>CallWP C A (.type f) xs σ2 Q X) X):CallBK C A env X pos args ρ Q (.typ f) σ:=⟨_,.inr ⟨rfl,h⟩⟩
noncomputable def CallRK (C:Cx) (A:Around) (env:Env) (X:XP) (pos:Pos) (args:List Expr) (ρ:Rho) (Q:pV) (fx:V) (σ1:Store):Prop:=
 ∃f,fx=.ref f∧keepIn C.K (.ref f)=true∧Ags C A env pos args ρ σ1 (fun xs σ2=>CallWP C A (.ref f) xs σ2 Q X) X
theorem Ev.callRT{func:Expr} {args:List Expr} {pos:Pos} {Q:pV} (h:Ev C A env func ρ σ (CallRK C A env X pos args ρ Q) X)
  (hev:Z5f func args pos env:=by kernel_rfl) (he:Z1Q pos args env:=by kernel_rfl):Ev C A env (.Call func args [] pos) ρ σ Q X:=Ev.callR h hev he.symm
theorem CallRK.go{f:Addr} {pos:Pos} {args:List Expr} {Q:pV} (k:keepIn C.K (.ref f)=true) (h:Ags C A env pos args ρ σ (fun xs σ2=>CallWP C A (.ref f) xs σ2 Q X) X):CallRK C A env X pos args ρ Q (.ref f) σ:=⟨_,rfl,k,h⟩
end
section
variable {C:Cx} {A:Around} {σ:Store} {X:XP}
@[elab_as_elim] theorem atKL {α:Type} {F:α->Frag} {p:Frag->Prop} (K:Frag) {x:α} (hK:K=F x) (h:∀y,p (F y)):p K:=hK▸h x
theorem VRs.byGet{h:Heap}:∀{vs:List Value} {xs:List V},vs.length=xs.length->(∀(i:Nat) v x,vs[i]?=some v->xs[i]?=some x->VR h v x)->VRs h vs xs
 | [],[],_,_=>.nil
 | v::vs,x::xs,e,k=>.cons (k 0 v x rfl rfl) (VRs.byGet (Nat.succ.inj e) fun i a b h1 h2=>k (i+1) a b h1 h2)
end
section
variable {C:Cx} {A:Around} {σ:Store} {X:XP}
end
abbrev Z5g(x:Str) (tp:Pos) (value:Expr) (pos:Pos) (sc:Scope) (q:Str) (f:Addr) (cd:Value) (L:Addr):Prop:=
 (pure false,pure none,[assign (.Name x tp) (fE sc q f cd L)],(none:Option Addr))=(swapsWithSole [.Name x tp] value pos.line (fE sc q f cd L),swappedStores [.Name x tp] value (fE sc q f cd L),(assignEach [.Name x tp] (fE sc q f cd L)).map (·.2),(cellsFrom (L+1) sc.names []).lookup x)
abbrev Z4h(g:Str) (np:Pos) (args:List Expr) (pos:Pos) (env:Env):Prop:=
 (eval (.Call (.Name g np) args [] pos) env,false,false)=((do callWith pos (←eval (.Name g np) env) [] (backTo pos (starEach args env)) (backToKw pos (keywordEach [] env))),(backTo pos (starEach args env)).any (·.1),g==("__debug__":Str))
section
variable {C:Cx} {A:Around} {env:Env} {ρ:Rho} {σ:Store} {X:XP} {sc:Scope} {q:Str} {f:Addr} {cd:Value} {L:Addr}
theorem Exs.asgN{x:Str} {tp pos:Pos} {value:Expr} {ss:List Stmt} {Q:pW} (hk:sc.names.lookup x=some .local) (h:Ev C A (fE sc q f cd L) value ρ σ (fun y σ1=>Exs C A (fE sc q f cd L) ss (ρ.put x y) σ1 Q X) X)
  (k:Z5g x tp value pos sc q f cd L:=by kernel_rfl):Exs C A (fE sc q f cd L) (.Assign [.Name x tp] value pos::ss) ρ σ Q X:=
 Exs.cons (Ex.assign (h.mono fun y σ1 z=>Asg.nlocF hk rfl z (congrArg (·.2.2.2) k).symm) (congrArg (·.1) k).symm (congrArg (·.2.1) k).symm (congrArg (·.2.2.1) k).symm)
theorem Exs.asgP{x:Str} {tp pos:Pos} {value:Expr} {v:V} {ss:List Stmt} {Q:pW} (hk:sc.names.lookup x=some .local) (hp:Pe C A (fE sc q f cd L) ρ σ value v) (h:Exs C A (fE sc q f cd L) ss (ρ.put x v) σ Q X)
  (k:Z5g x tp value pos sc q f cd L:=by kernel_rfl):Exs C A (fE sc q f cd L) (.Assign [.Name x tp] value pos::ss) ρ σ Q X:=Exs.asgN hk (hp _ _ h) k
theorem Exs.expN{e:Expr} {pos:Pos} {ss:List Stmt} {Q:pW} (h:Ev C A env e ρ σ (fun _ σ1=>Exs C A env ss ρ σ1 Q X) X)
  (hi:kE1 env:=by kernel_rfl) (hs:kE2 e pos env:=by kernel_rfl):Exs C A env (.Expr e pos::ss) ρ σ Q X:=Exs.cons (Ex.exprS h hi hs)
theorem Exs.retP{e:Expr} {pos:Pos} {v:V} {ss:List Stmt} {Q:pW} (hp:Pe C A env ρ σ e v) (h:Q (.ret v) ρ σ):Exs C A env (.Return (some e) pos::ss) ρ σ Q X:=Exs.cons (Ex.ret (hp _ _ h))
theorem Exs.ifP{t:Expr} {b1 b2 ss:List Stmt} {pos:Pos} {b:Bool} {Q:pW} (hp:Tp C A env ρ σ t b) (h:if b=true then Exs C A env b1 ρ σ (Then C A env ss Q X) X else Exs C A env b2 ρ σ (Then C A env ss Q X) X):Exs C A env (.If t b1 b2 pos::ss) ρ σ Q X:=Exs.cons (Ex.ite (hp _ _ h))
theorem Ev.callPB{g:Str} {np cp:Pos} {args:List Expr} {i:String} {vs:List V} {Q:pV} (hk:sc.names.lookup g=some .globalImplicit) (e:nsIn C.K mainGlobals g=some none) (hv:bootBuiltins g=some (.builtin i)) (hn:g≠"__name__") (hp:Pes C A (fE sc q f cd L) ρ σ args vs) (h:CallWP C A (.builtin i) vs σ Q X)
  (k:Z4h g np args cp (fE sc q f cd L):=by kernel_rfl):Ev C A (fE sc q f cd L) (.Call (.Name g np) args [] cp) ρ σ Q X:=
 Ev.callB (Ev.nbltF hk e hv (.blt _) ⟨i,.inl ⟨rfl,hp _ _ _ h⟩⟩ hn (congrArg (·.2.2) k).symm) (congrArg (·.1) k) (congrArg (·.2.1) k).symm
theorem Ev.callPT{g:Str} {np cp:Pos} {args:List Expr} {i:String} {vs:List V} {Q:pV} (hk:sc.names.lookup g=some .globalImplicit) (e:nsIn C.K mainGlobals g=some none) (hv:bootBuiltins g=some (.type i)) (hn:g≠"__name__") (hp:Pes C A (fE sc q f cd L) ρ σ args vs) (h:CallWP C A (.type i) vs σ Q X)
  (k:Z4h g np args cp (fE sc q f cd L):=by kernel_rfl):Ev C A (fE sc q f cd L) (.Call (.Name g np) args [] cp) ρ σ Q X:=
 Ev.callB (Ev.nbltF hk e hv (.typ _) ⟨i,.inr ⟨rfl,hp _ _ _ h⟩⟩ hn (congrArg (·.2.2) k).symm) (congrArg (·.1) k) (congrArg (·.2.1) k).symm
noncomputable def MetP (C:Cx) (σ:Store) (a:Addr) (name:Str) (g:Addr):Prop:=∀(A:Around) (env:Env) (pos:Pos) (args:List Expr) (ρ:Rho) (Q:pV) (X:XP),Ags C A env pos args ρ σ (fun xs σ2=>CallWP C A (.ref g) (.ref a::xs) σ2 Q X) X->MethWP C A env pos args ρ (.ref a) name σ Q X
theorem MetP.mk{a c dx g:Addr} {es:List (Str×V)} {name:Str} (h1:σ a=some (.inst c dx)) (h2:σ dx=some (.sd es)) (h3:sget es name=none) (k1:plainGet C.K c name=true) (k2:findIn C.K (.ref c) name=some (some (.ref g))) (k3:isFn C.K (.ref g)=true) (k4:keepIn C.K (.ref g)=true):MetP C σ a name g:=
 fun _ _ _ _ _ _ _ h=>MethWP.mk h1 h2 h3 k1 k2 k3 k4 h
theorem Ev.methP{o:Expr} {name:Str} {apos pos:Pos} {args:List Expr} {a g:Addr} {vs:List V} {Q:pV} (ho:Pe C A env ρ σ o (.ref a)) (m:MetP C σ a name g) (hp:Pes C A env ρ σ args vs) (h:CallWP C A (.ref g) (.ref a::vs) σ Q X)
  (he:Z5e o name apos pos args env:=by kernel_rfl) (hst:Z1Q pos args env:=by kernel_rfl):Ev C A env (.Call (.Attribute o name apos) args [] pos) ρ σ Q X:=Ev.methS (ho _ _ (m _ _ _ _ _ _ _ (hp _ _ _ h))) he hst
abbrev kBm(o:Expr) (name:Str) (apos pos:Pos) (args:List Expr) (env:Env):Prop:=(eval o env,true,true,false)=(attributeBase o name env (eval o env),((backTo pos (starEach args env)).all (fun x=>!x.1)&&(backToKw pos (keywordEach [] env)).all (fun x=>x.1.isSome)
   && decide (args.length+([]:List Keyword).length+(if ([]:List Keyword).isEmpty then 0 else 1)<30)),(apos.endLine==pos.line),(backTo pos (starEach args env)).any (·.1))
theorem Ev.bmethP{o:Expr} {name:Str} {apos pos:Pos} {args:List Expr} {T id:String} {x:V} {vs:List V} {Q:pV} (pa:PlainAttrs T) (slot:Slot T name id) (hty:typeOf (.builtin id)=Pure.pure (.type "method_descriptor"))
  (ho:Pe C A env ρ σ o x) (ty:TyV C σ x T) (hp:Pes C A env ρ σ args vs) (h:CallWP C A (.builtin id) (x::vs) σ Q X) (k:kBm o name apos pos args env:=by kernel_rfl):Ev C A env (.Call (.Attribute o name apos) args [] pos) ρ σ Q X:=
 Ev.bmeth pa slot hty (ho _ _ ⟨ty,hp _ _ _ h⟩) (congrArg (·.1) k).symm (congrArg (·.2.1) k).symm (congrArg (·.2.2.1) k).symm (congrArg (·.2.2.2) k).symm
end
section
variable {C:Cx} {A:Around} {env:Env} {ρ:Rho} {σ:Store} {X:XP} {s:Shared}
theorem St.retype{o o':O} {a:Addr} (S:St C σ s) (ha:σ a=some o) (r:Rep C s.heap a o'):St C (σ.upd a o') s∧Evo σ s.heap (σ.upd a o') s.heap:=
 S.set (t:=s.toks) ha ⟨rfl,fun _ _=>rfl⟩ r
theorem St.openId{d:Addr} {es:List (Int×V)} (S:St C σ s) (hd:σ d=some (.id es)):∃ep,Rep C s.heap d (.ie es ep):=
 let ⟨kvs,⟨o,es',ep,ho,rest⟩,pr⟩:=S.rep _ _ hd
 ⟨ep,kvs,⟨o,es',ho,rest⟩,pr⟩
theorem Exs.shut{ss:List Stmt} {d:Addr} {es:List (Int×V)} {ep:Nat} {Q:pW} (hd:σ d=some (.ie es ep)) (h:Exs C A env ss ρ (σ.upd d (.id es)) Q X):Exs C A env ss ρ σ Q X:=by
 revert C A env ρ σ X ss d es ep Q;k_extra "e11";intro C A env ρ σ X ss d es ep Q hd h
 intro s S F
 obtain⟨kvs,⟨o,es',ho,rest⟩,pr⟩:=S.rep _ _ hd
 obtain⟨S1,e1⟩:=S.retype hd (o':=.id es) ⟨kvs,⟨o,es',ep,ho,rest⟩,pr⟩
 exact wpAny_mono (h s S1 (F.evo e1)) (fun _ _ z=>z.after (e1.evoF F.own)) fun _ _ z=>z
theorem PR.nth{K:Type} {h:Heap} {kvs:List (K×Value)} {es:List (K×V)} (z:PR h kvs es):∀{i:Nat} {p:K×V},es[i]?=some p->∃v,kvs[i]?=some (p.1,v):=by
 induction z with
 | nil=>intro i p e;cases e
 | cons r _ ih=>
  intro i p e
  cases i with
  | zero=>cases e;exact⟨_,rfl⟩
  | succ i=>exact ih e
theorem Itr.dict{target:Expr} {it d:Addr} {es:List (Int×V)} {ep:Nat} (hh:A.handled=none) :
  Itr C A target (.ref it) (fun b=>b=it) (fun k h=>h.IsKeyIter it d k es.length ep) (fun σ=>σ d=some (.ie es ep)) (es.map fun p=>V.int p.1) where
 frame:=fun k h h' ⟨o,e,r⟩ _ kp=>⟨o,kp it o rfl e,r⟩
 notTup:=fun k h b o' ⟨o,e,c,_⟩ q z=>by subst q;rw[e]at z;cases z;exact Imm.not (by rw[c];simp) (by rw[c];simp) (by rw[c];simp)
 notD:=fun k h b o' ⟨o,e,c,d⟩ q z es n w=>by subst q;rw[e]at z;cases z;rw[d]at w;cases w
 there:=fun k h b ⟨o,e,_⟩ q=>by subst q;exact⟨o,e⟩
 more:=fun k σ s x Q X S hok hJ hx no hQ=>by
  obtain⟨kvs,D,pr⟩:=S.rep _ _ hok
  rw[←pr.length]at hJ
  rw[List.getElem?_map]at hx
  obtain⟨p,hp,rfl⟩:=Option.map_eq_some_iff.mp hx
  obtain⟨v,hv⟩:=pr.nth hp
  refine wpAny_pyNext_dict_item hJ D hv fun key h' hk J' sb=>?_
  rw[pr.length]at J'
  obtain⟨t',ey⟩:=PySem.Value.isInt_shape hk
  subst ey
  have kp:∀b o,¬b=it->s.heap.get? b=some o->h'.get? b=some o:=fun b o q e=>(sb.2 b q).trans e
  refine hQ _ h' s.toks (.int _ _) kp (fun b o' q z=>?_) (fun Q' X' hq=>by
   obtain⟨o,e,c,_⟩:=id J'
   exact Zr (s:={ s with heap:=h' }) e c (by decide) (hq h' s.toks J' fun _ _ _ e=>e))
  subst q
  obtain⟨o,e,c,_⟩:=J'
  rw[e]at z;cases z;exact Imm.not (by rw[c];simp) (by rw[c];simp) (by rw[c];simp)
 self:=fun k s Q X hJ hq=>wpAny_pyIter_keyiter hJ hq
 done:=fun k σ s Q X S hok hJ hx no hQ=>by
  obtain⟨kvs,D,pr⟩:=S.rep _ _ hok
  have hn:kvs[k]?=none:=by
   have h1:=List.getElem?_eq_none_iff.mp hx
   rw[List.length_map,←pr.length]at h1
   exact List.getElem?_eq_none_iff.mpr h1
  rw[←pr.length]at hJ
  exact wpAny_pyNext_dict_end hh hJ D hn fun h' kp=>hQ h' s.toks fun b o q e=>kp b o q e
theorem Src.dict{target iter:Expr} {Q:List V->(Store->Prop)->Store->Prop} (hh:A.handled=none) (hS:Zh C)
  (h:Ev C A env iter ρ σ (fun x σ1=>∃d es,x=.ref d∧σ1 d=some (.id es)∧∀ep,Q (es.map fun p=>V.int p.1) (fun σ=>σ d=some (.ie es ep)) (σ1.upd d (.ie es ep))) X):Src C A env target iter ρ σ Q X:=by
 intro s S F
 refine wpAny_mono (h s S F) ?_ fun _ _ z=>z
 rintro v s1 ⟨x,σ1,⟨d,es,rfl,hd,q⟩,r1,S1,e1⟩
 obtain rfl:=r1.refI
 obtain⟨ep,rp⟩:=S1.openId hd
 obtain⟨S2,e2⟩:=S1.retype hd rp
 obtain⟨kvs,D,pr⟩:=rp
 refine wpAny_pyIter_dict (S1.notSys hS hd) D ?_
 refine⟨_,_,_,fun b=>b=s1.heap.objs.size,_,q ep,Itr.dict hh,Store.hit,S2.push (t:=s1.toks),(e1.trans e2).trans .push,fun b w=>?_,⟨_,Heap.get?_push_size _ rfl,rfl,by rw[pr.length];rfl⟩⟩
 subst w
 exact⟨Evo.fresh (h':=s1.heap) S1 e1 (Nat.le_refl _),S2.fresh⟩
theorem ItemWP.ie{d:Addr} {es:List (Int×V)} {ep:Nat} {k:Int} {y:V} {Q:pV} (hd:σ d=some (.ie es ep)) (hx:iget es k=some y) (h:Q y σ):ItemWP C A (.ref d) (.int k) σ Q X:=by
 intro s a b S ra rb
 obtain rfl:=ra.refI
 obtain⟨t,rfl⟩:=rb.intI
 obtain⟨kvs,D,pr⟩:=S.rep _ _ hd
 obtain⟨u,hu,ru⟩:=pr.find (x:=k) (y:=y) hx
 refine⟨⟨_,_,D.dictOf.typeIs,PySem.slot_dict_getitem.lookup⟩,?_⟩
 exact wpAny_getItem_of (knd:=intKind C.prog C.w) (k:=k) (by show(k==k)=true;simp) D.dictOf.mapOf hu (EP.pureT S h ru)
theorem CmpWP.ltPair{a b c d:Int} {Q:pV} (hu:A.units<9000) (h:Q (.bool (lexlt (a,b) (c,d))) σ):CmpWP C A .Lt (.tup [.int a,.int b]) (.tup [.int c,.int d]) σ Q X:=by
 revert C A σ X a b c d Q;k_extra "e9";intro C A σ X a b c d Q hu h
 intro s x y S rx ry
 obtain⟨p,t,u,n,rfl,e1⟩:=VR.pv_at (p:=(a,b)) rx
 obtain⟨q,t',u',k,rfl,e2⟩:=VR.pv_at (p:=(c,d)) ry
 exact Z3f e1 e2 (by simp only[cLine];(first|lia|(first|lia|omega))) (EP.pureT S h (.bool _))
theorem CmpWP.inTupI{w:List Int} {k:Int} {Q:pV} (hu:A.units<9000) (h:Q (.bool (w.contains k)) σ):CmpWP C A .In (.int k) (.tup (w.map V.int)) σ Q X:=by
 refine CmpWP.inT (.int _) (DRs.map fun _ _=>.int _) rfl (Z5 fun _ _=>by simp[PyData.canLay0]) (by simp only[PyData.depth,cLine];(first|lia|(first|lia|omega))) ?_
 have e:((w.map PyData.int).any fun y=>PyData.eqv y (.int k))=w.contains k:=by
  rw[Bool.eq_iff_iff]
  simp[PyData.eqv]
 rw[e];exact h
theorem CmpWP.notInTupI{w:List Int} {k:Int} {Q:pV} (hu:A.units<9000) (h:Q (.bool (!w.contains k)) σ):CmpWP C A .NotIn (.int k) (.tup (w.map V.int)) σ Q X:=by
 refine CmpWP.notInT (.int _) (DRs.map fun _ _=>.int _) rfl (Z5 fun _ _=>by simp[PyData.canLay0]) (by simp only[PyData.depth,cLine];(first|lia|(first|lia|omega))) ?_
 have e:((w.map PyData.int).any fun y=>PyData.eqv y (.int k))=w.contains k:=by
  rw[Bool.eq_iff_iff]
  simp[PyData.eqv]
 rw[e];exact h
theorem CallWP.listOfId{d:Addr} {es:List (Int×V)} {Q:pV} (hd:σ d=some (.id es)) (hS:Zh C) (hh:A.handled=none) (hz:es.length≤sizeLine) (h:∀a,σ a=Option.none->Q (.ref a) (σ.upd a (.list (es.map fun p=>V.int p.1)))):CallWP C A (.type "list") [.ref d] σ Q X:=by
 revert C A σ X d es Q;k_extra "e7";intro C A σ X d es Q hd hS hh hz h
 intro s vs S r
 obtain⟨_,rfl,r1⟩:=r.one
 obtain rfl:=r1.refI
 obtain⟨ep,kvs,D,pr⟩:=S.openId hd
 refine kdl_call (kdl_dict (S.notSys hS hd)) hh D (by rw[pr.length];exact hz) fun h' tk acc c' kp e' hacc=>?_
 have S':St C σ { s with heap:=h',toks:=tk }:=S.ext kp
 have rl:VRs h' acc.toList (es.map fun p=>V.int p.1):=by
  refine VRs.byGet (by rw[Array.length_toList,List.length_map,←pr.length];exact hacc.1) fun i v x hv hx=>?_
  rw[List.getElem?_map]at hx
  obtain⟨p,hp,rfl⟩:=Option.map_eq_some_iff.mp hx
  obtain⟨u,hu⟩:=pr.nth hp
  obtain⟨k,y,h1,h2⟩:=hacc.2 i v (by simpa using hv)
  rw[hu]at h1;cases h1
  obtain⟨t',ey⟩:=PySem.Value.isInt_shape h2
  subst ey
  exact .int _ _
 obtain⟨S2,e2⟩:=S'.adopt (a:=s.heap.objs.size) (o:=.list (es.map fun p=>V.int p.1)) (σ0:=σ) (h0:=s.heap) ⟨acc,⟨c',e'⟩,rl⟩ S.size (.ext kp) (get?_fresh _)
 exact⟨.ref _,_,h _ S.fresh,.ref _,S2,e2⟩
theorem VRs.rep{h:Heap} {v:Value} {y:V} (r:VR h v y):∀n:Nat,VRs h (List.replicate n v) (List.replicate n y)
 | 0=>.nil
 | n+1=>.cons r (VRs.rep r n)
theorem Z2K{α:Type} (v:α):∀n:Nat,(List.replicate n [v]).flatten=List.replicate n v
 | 0=>rfl
 | n+1=>by rw[List.replicate_succ,List.flatten_cons,Z2K v n];rfl
theorem BinWP.mulOne{l:Addr} {y:V} {n:Nat} {x:Int} {Q:pV} (hx:x=(n:Int)) (hl:LstAt C σ l [y]) (hz:n≤9000) (h:∀a,σ a=none->Q (.ref a) (σ.upd a (.list (List.replicate n y)))):BinWP C A .Mult (.ref l) (.int x) σ Q X:=by
 intro s a b S ra rb
 obtain rfl:=ra.refI
 obtain⟨u,rfl⟩:=rb.intI
 obtain⟨items,⟨⟨cls,d,data,sl⟩,e,c,k,hd⟩,rl⟩:=hl.raw S
 simp only at c hd
 subst c hd
 obtain⟨v,ev,r1⟩:=rl.one
 have h1:items.size=1:=by rw[←Array.length_toList,ev];rfl
 have h2:x.toNat=n:=by rw[hx,Int.toNat_natCast]
 have q1:¬(!Builtin.List.listFitsIndex x)=true:=by simp only[Builtin.List.listFitsIndex];simp;(first|lia|(first|lia|omega))
 have q2:¬items.size*x.toNat>(2 ^ 63-1) / 8:=by rw[h2,h1];(first|lia|(first|lia|omega))
 have q3:¬Builtin.List.listTooLong (items.size*x.toNat)=true:=by rw[h2,h1];simp[Builtin.List.listTooLong,sizeLine];(first|lia|(first|lia|omega))
 have em:List.foldl (fun x1 x2=>x1++x2) #[] (List.replicate (if items.isEmpty=true then 0 else x.toNat) items)=(List.replicate n v).toArray:=by
  rw[listMul_foldl_if,h2,ev,Z2K]
 refine wpAny_binaryOp_repeat_ref (T:="list") (U:="int") (by decide) ⟨_,e,rfl⟩ (fun s'=>typeIs_int s' _ u) noFill_list_mul F.fills_int_mul F.slot_int_rmul repeat_list F.slot_int_index.lookup
  (call_meets F.slot_int_rmul (typeIs_int s _ u) F.entry_int_rmul (F.args_int_rmul_2 _ _) (lm_int_rmul_list_any x u l items k d sl)
   ⟨e,rfl,⟨_,e,rfl⟩,call_meets F.slot_list_mul ⟨_,e,rfl⟩ F.entry_list_mul (F.args_list_mul_2 _ _) (lm_list_mul_any l items k d sl x u q1 q2 q3) ⟨e,?_⟩⟩)
 rw[em]
 obtain⟨S2,e2⟩:=S.new (t:=s.toks) (ZE (VRs.rep r1 n))
 exact⟨.ref _,_,h _ S.fresh,.ref _,S2,e2⟩
end
noncomputable def Zq:Bool->Keyed->Array Keyed->Nat->Nat->Nat->StateT SortSt Sem (Option Nat):=sortPriv% PySem.Builtin.gallop
noncomputable def Z1F:Array Keyed->Array Keyed->StateT SortSt Sem (Array Keyed):=sortPriv% PySem.Builtin.mergeLo
noncomputable def Z1G:Array Keyed->Array Keyed->StateT SortSt Sem (Array Keyed):=sortPriv% PySem.Builtin.mergeHi
abbrev ZZ(st:SortSt) (g:Nat):SortSt:=SortSt.mk' (kindOf st) (arrOf st) (pendingOf st) g (failedOf st)
abbrev Z5t(st:SortSt) (a:Array Keyed):SortSt:=SortSt.mk' (kindOf st) a (pendingOf st) (gallopOf st) (failedOf st)
noncomputable def ZA (left:Bool) (key:Keyed) (arr:Array Keyed) (base i:Nat):StateT SortSt Sem (Option Bool):=do
 let x ←elem' arr (base+i)
 if left then lt' x key else return (←lt' key x).map (!·)
abbrev Zj:=Option (Option Nat)×Nat×Nat
noncomputable def Z4i (left:Bool) (key:Keyed) (arr:Array Keyed) (base n hint:Nat):StateT SortSt Sem Zj:=
 forIn [0:n] ((none,0,1):Zj) fun _ r=>
  if r.2.2≥n-hint then pure (ForInStep.done (none,r.2.1,r.2.2))
  else do
   let x ←ZA left key arr base (hint+r.2.2)
   match x with
   | some more=>if (!more)=true then pure (ForInStep.done (none,r.2.1,r.2.2)) else pure (ForInStep.yield (none,r.2.2,2*r.2.2+1))
   | _=>pure (ForInStep.done (some none,r.2.1,r.2.2))
noncomputable def Z5h (left:Bool) (key:Keyed) (arr:Array Keyed) (base n hint:Nat):StateT SortSt Sem Zj:=
 forIn [0:n] ((none,0,1):Zj) fun _ r=>
  if r.2.2≥hint+1 then pure (ForInStep.done (none,r.2.1,r.2.2))
  else do
   let x ←ZA left key arr base (hint-r.2.2)
   match x with
   | some found=>if found=true then pure (ForInStep.done (none,r.2.1,r.2.2)) else pure (ForInStep.yield (none,r.2.2,2*r.2.2+1))
   | _=>pure (ForInStep.done (some none,r.2.1,r.2.2))
noncomputable def Z6B (left:Bool) (key:Keyed) (arr:Array Keyed) (base n lo hi:Nat):StateT SortSt Sem Zj:=
 forIn [0:n] ((none,lo,hi):Zj) fun _ r=>
  if r.2.1≥r.2.2 then pure (ForInStep.done (none,r.2.1,r.2.2))
  else do
   let x ←ZA left key arr base (r.2.1+(r.2.2-r.2.1) / 2)
   match x with
   | some more=>if more=true then pure (ForInStep.yield (none,r.2.1+(r.2.2-r.2.1) / 2+1,r.2.2)) else pure (ForInStep.yield (none,r.2.1,r.2.1+(r.2.2-r.2.1) / 2))
   | _=>pure (ForInStep.done (some none,r.2.1,r.2.2))
noncomputable def binP (left:Bool) (key:Keyed) (arr:Array Keyed) (base n lo hi:Nat):StateT SortSt Sem (Option Nat):=do
 let r ←Z6B left key arr base n lo hi
 match r.1 with
 | some r=>pure r
 | none=>pure (some r.2.2)
theorem Z3J(left:Bool) (key:Keyed) (arr:Array Keyed) (base n hint:Nat):Zq left key arr base n hint=(do
 let x ←ZA left key arr base hint
 match x with
 | some right=>
  if right=true then do
   let r ←Z4i left key arr base n hint
   match r.1 with
   | some r=>pure r
   | none=>binP left key arr base n (hint+r.2.1+1) (hint+min r.2.2 (n-hint))
  else do
   let r ←Z5h left key arr base n hint
   match r.1 with
   | some r=>pure r
   | none=>binP left key arr base n (hint+1-min r.2.2 (hint+1)) (hint-r.2.1)
 | _=>pure none):=by kernel_rfl
section
variable {M:Model} {A:Around} {E:pS} {s:Shared}
theorem Z4{arr:Array Keyed} {i:Nat} {x:Keyed} {Q:Keyed->SortSt->Prop} {st:SortSt} (e:arr[i]?=some x) (h:Q x st):wpS M A E s (elem' arr i) Q st:=by
 show wpS M A E s (match arr[i]? with|some p=>pure p|none=>unsupported "internal:list.sort.index") Q st
 rw[e];exact wpS_pure h
structure Ask(M:Model) (A:Around) (E:pS) (s:Shared) (κ:SortKind) (G:Keyed->Prop) (kx:Keyed->Int):Prop where
 ask:∀(x y:Keyed) (st:SortSt) (Q:Option Bool->SortSt->Prop),G x->G y->kindOf st=κ->Q (some (decide (kx x<kx y))) st->wpS M A E s (lt' x y) Q st
variable {κ:SortKind} {G:Keyed->Prop} {kx:Keyed->Int}
noncomputable def bey (kx:Keyed->Int) (left:Bool) (key:Keyed) (arr:Array Keyed) (base i:Nat):Bool:=match arr[base+i]? with
 | some x=>if left then decide (kx x<kx key) else !decide (kx key<kx x)
 | none=>false
theorem Z5u(c:Ask M A E s κ G kx) {left:Bool} {key:Keyed} {arr:Array Keyed} {base i:Nat} {st:SortSt} {Q:Option Bool->SortSt->Prop} (hk:kindOf st=κ) (hkey:G key) {x:Keyed} (e:arr[base+i]?=some x) (hx:G x)
  (h:Q (some (bey kx left key arr base i)) st):wpS M A E s (ZA left key arr base i) Q st:=by
 unfold ZA
 unfold bey at h
 rw[e]at h
 refine wpS_bind (Z4 e ?_)
 cases left with
 | true=>exact c.ask x key st Q hx hkey hk h
 | false=>
  refine wpS_bind (c.ask key x st _ hkey hx hk ?_)
  exact wpS_pure h
theorem Z3{α:Type} {Q:α->SortSt->Prop} {st:SortSt} {p:Prop} [Decidable p] {x y:StateT SortSt Sem α} (h1:p->wpS M A E s x Q st) (h2:¬p->wpS M A E s y Q st):wpS M A E s (if p then x else y) Q st:=by
 by_cases h:p
 ·rw[if_pos h];exact h1 h
 ·rw[if_neg h];exact h2 h
theorem nbt{b:Bool} (h:(!b)=true):b=false:=by cases b<;>first|rfl|cases h
theorem nbf{b:Bool} (h:¬(!b)=true):b=true:=by cases b<;>first|rfl|exact absurd rfl h
structure GC(M:Model) (A:Around) (E:pS) (s:Shared) (left:Bool) (key:Keyed) (arr:Array Keyed) (base n:Nat) (st:SortSt) (b:Nat->Bool):Prop where
 ask:∀(i:Nat) (Q:Option Bool->SortSt->Prop),i<n->Q (some (b i)) st->wpS M A E s (ZA left key arr base i) Q st
 mono:∀i j,i≤j->j<n->b j=true->b i=true
 anti:∀i j,i≤j->j<n->b i=false->b j=false
section
variable {left:Bool} {key:Keyed} {arr:Array Keyed} {base n hint:Nat} {st:SortSt} {b:Nat->Bool}
theorem Z3i{lo hi:Nat} {Q:Option Nat->SortSt->Prop} (c:GC M A E s left key arr base n st b) (h1:lo≤hi) (h2:hi≤n) (h3:∀i,i<lo->b i=true) (h4:∀i,hi≤i->i<n->b i=false) (h:∀k,k≤n->(∀i,i<k->b i=true)->(∀i,k≤i->i<n->b i=false)->Q (some k) st):wpS M A E s (binP left key arr base n lo hi) Q st:=by
 revert M A E s left key arr base n st b lo hi Q;k_extra "e14";intro M A E s left key arr base n st b lo hi Q c h1 h2 h3 h4 h
 refine wpS_bind (wpS_mono (wpS_forRange (I:=fun x (r:Zj) st'=>st'=st∧r.1=none∧r.2.1≤r.2.2∧r.2.2≤n∧r.2.2-r.2.1≤n-x∧(∀i,i<r.2.1->b i=true)∧(∀i,r.2.2≤i->i<n->b i=false))
  (Q:=fun(r:Zj) st'=>st'=st∧r.1=none∧r.2.2≤n∧(∀i,i<r.2.2->b i=true)∧(∀i,r.2.2≤i->i<n->b i=false)) ?_ ?_ ⟨rfl,rfl,h1,h2,by exact Y1A h2,h3,h4⟩) ?_)
 ·rintro x ⟨r,lo,hi⟩ st' _ hx ⟨rfl,rfl,q1,q2,q3,q4,q5⟩
  refine Z3 (fun hge=>?_) fun hge=>wpS_bind (c.ask _ _ (by exact Y1C q2 hge) ?_)
  ·obtain rfl:lo=hi:=by exact YO q1 hge
   exact wpS_pure ⟨rfl,rfl,q2,q4,q5⟩
  ·refine Z3 (fun hm=>?_) fun hm=>?_
   ·exact wpS_pure ⟨rfl,rfl,by exact Y1E hge,by exact Y15 q2,by exact Y1F q3,fun i hi'=>c.mono i _ (by exact Y1H hi') (by exact Y1C q2 hge) hm,q5⟩
   ·exact wpS_pure ⟨rfl,rfl,by exact Y1J,by exact Y1L q2 hge,by exact Y1M q3,q4,fun i hi' hi2=>c.anti _ i hi' hi2 (Bool.eq_false_iff.mpr hm)⟩
 ·rintro⟨r,lo,hi⟩ st' ⟨rfl,rfl,q1,q2,q3,q4,q5⟩
  obtain rfl:lo=hi:=by exact Y1d q1 q3
  exact⟨rfl,rfl,q2,q4,q5⟩
 ·rintro⟨r,lo,hi⟩ st' ⟨rfl,rfl,q1,q2,q3⟩
  exact wpS_pure (h hi q1 q2 q3)
theorem Z4j{Q:Zj->SortSt->Prop} (c:GC M A E s left key arr base n st b) (hh:hint<n) (hr:b hint=true) (h:∀la o,la<o->la<n-hint->b (hint+la)=true->(n-hint≤o∨b (hint+o)=false)->Q (none,la,o) st):wpS M A E s (Z4i left key arr base n hint) Q st:=by
 revert M A E s left key arr base n hint st b Q;k_extra "e13";intro M A E s left key arr base n hint st b Q c hh hr h
 refine wpS_mono (wpS_forRange (I:=fun x (r:Zj) st'=>st'=st∧r.1=none∧r.2.1<r.2.2∧r.2.1<n-hint∧x+1≤r.2.2∧b (hint+r.2.1)=true)
  (Q:=fun(r:Zj) st'=>st'=st∧r.1=none∧r.2.1<r.2.2∧r.2.1<n-hint∧b (hint+r.2.1)=true∧(n-hint≤r.2.2∨b (hint+r.2.2)=false)) ?_ ?_ ⟨rfl,rfl,by exact Y1N,by exact Y1O hh,by exact Y1P,hr⟩) ?_
 ·rintro x ⟨r,la,o⟩ st' _ hx ⟨rfl,rfl,q1,q2,q3,q4⟩
  refine Z3 (fun hge=>wpS_pure ⟨rfl,rfl,q1,q2,q4,.inl hge⟩) fun hge=>wpS_bind (c.ask _ _ (by exact Y1Q hge) (Z3 (fun hm=>?_) fun hm=>?_))
  ·exact wpS_pure ⟨rfl,rfl,q1,q2,q4,.inr (nbt hm)⟩
  ·exact wpS_pure ⟨rfl,rfl,by exact Y1R,by exact Y1S hge,by exact Y1T q3,nbf hm⟩
 ·rintro⟨r,la,o⟩ st' ⟨rfl,rfl,q1,q2,q3,q4⟩
  exact⟨rfl,rfl,q1,q2,q4,.inl (by exact Y1U q3)⟩
 ·rintro⟨r,la,o⟩ st' ⟨rfl,rfl,q1,q2,q3,q4⟩
  exact h la o q1 q2 q3 q4
theorem Z4V{Q:Zj->SortSt->Prop} (c:GC M A E s left key arr base n st b) (hh:hint<n) (hr:b hint=false) (h:∀la o,la<o->la<hint+1->b (hint-la)=false->(hint+1≤o∨b (hint-o)=true)->Q (none,la,o) st):wpS M A E s (Z5h left key arr base n hint) Q st:=by
 revert M A E s left key arr base n hint st b Q;k_extra "e13";intro M A E s left key arr base n hint st b Q c hh hr h
 refine wpS_mono (wpS_forRange (I:=fun x (r:Zj) st'=>st'=st∧r.1=none∧r.2.1<r.2.2∧r.2.1<hint+1∧x+1≤r.2.2∧b (hint-r.2.1)=false)
  (Q:=fun(r:Zj) st'=>st'=st∧r.1=none∧r.2.1<r.2.2∧r.2.1<hint+1∧b (hint-r.2.1)=false∧(hint+1≤r.2.2∨b (hint-r.2.2)=true)) ?_ ?_ ⟨rfl,rfl,by exact Y1N,by exact Y21,by exact Y1P,hr⟩) ?_
 ·rintro x ⟨r,la,o⟩ st' _ hx ⟨rfl,rfl,q1,q2,q3,q4⟩
  refine Z3 (fun hge=>wpS_pure ⟨rfl,rfl,q1,q2,q4,.inl hge⟩) fun hge=>wpS_bind (c.ask _ _ (by exact Y22 hh) (Z3 (fun hm=>?_) fun hm=>?_))
  ·exact wpS_pure ⟨rfl,rfl,q1,q2,q4,.inr hm⟩
  ·exact wpS_pure ⟨rfl,rfl,by exact Y1R,by exact Y23 hge,by exact Y1T q3,Bool.eq_false_iff.mpr hm⟩
 ·rintro⟨r,la,o⟩ st' ⟨rfl,rfl,q1,q2,q3,q4⟩
  exact⟨rfl,rfl,q1,q2,q4,.inl (by exact Y24 hh q3)⟩
 ·rintro⟨r,la,o⟩ st' ⟨rfl,rfl,q1,q2,q3,q4⟩
  exact h la o q1 q2 q3 q4
theorem Z4k{Q:Option Nat->SortSt->Prop} (c:Ask M A E s κ G kx) (hk:kindOf st=κ) (hkey:G key) (hG:∀i,i<n->∃x,arr[base+i]?=some x∧G x) (hh:hint<n) (mono:∀i j,i≤j->j<n->bey kx left key arr base j=true->bey kx left key arr base i=true) (h:∀k,k≤n->(∀i,i<k->bey kx left key arr base i=true)->(∀i,k≤i->i<n->bey kx left key arr base i=false)->Q (some k) st):wpS M A E s (Zq left key arr base n hint) Q st:=by
 revert M A E s κ G kx left key arr base n hint st Q;k_extra "e15";intro M A E s κ G kx left key arr base n hint st Q c hk hkey hG hh mono h
 have c:GC M A E s left key arr base n st (bey kx left key arr base):=⟨fun i Q hi hq=>by
  obtain⟨x,e,g⟩:=hG i hi
  exact Z5u c hk hkey e g hq,mono,fun i j hij hj hf=>by
  cases q:bey kx left key arr base j with
  | false=>rfl
  | true=>rw[mono i j hij hj q]at hf;cases hf⟩
 generalize bey kx left key arr base=b at *
 rw[Z3J]
 refine wpS_bind (c.ask hint _ hh (Z3 (fun hr=>wpS_bind (Z4j c hh hr fun la o q1 q2 q3 q4=>?_)) fun hr=>wpS_bind (Z4V c hh (Bool.eq_false_iff.mpr hr) fun la o q1 q2 q3 q4=>?_)))
 ·refine Z3i c (by exact Y1V q1 q2) (by exact Y1W q2) (fun i hi=>c.mono i _ (by exact Y1X hi) (by exact Y1Y q2) q3) (fun i h1 h2=>?_) h
  rcases q4 with q|q
  ·exact Y1Z h1 h2 q
  ·exact c.anti _ i (by exact Y20 h1 h2) h2 q
 ·refine Z3i c (by exact Y25 q1) (by exact Y26 hh) (fun i hi=>?_) (fun i h1 h2=>c.anti _ i h1 h2 q3) h
  by_cases hz:hint+1≤o
  ·exact Y27 hi hz
  ·exact c.mono i _ (by exact Y28 hi) (by exact Y22 hh) (q4.resolve_left hz)
end
end
section
variable {kx:Keyed->Int}
noncomputable def SrtL (kx:Keyed->Int) (l:List Keyed):Prop:=l.Pairwise fun x y=>kx x≤kx y
structure MI(kx:Keyed->Int) (a b:List Keyed) (out ra rb:List Keyed):Prop where
 perm:(out++(ra++rb)).Perm (a++b)
 srt:SrtL kx out
 lo:∀x∈out,∀y∈ra++rb,kx x≤kx y
 sa:SrtL kx ra
 sb:SrtL kx rb
variable {a b out ra rb:List Keyed}
theorem MI.addA(I:MI kx a b out ra rb) (k:Nat) (h:∀x∈ra.take k,∀y∈rb,kx x≤kx y):MI kx a b (out++ra.take k) (ra.drop k) rb:=by
 have e:ra.take k++ra.drop k=ra:=List.take_append_drop k ra
 have s:=I.sa
 rw[←e]at s
 obtain⟨s1,s2,s3⟩:=List.pairwise_append.mp s
 refine⟨?_,?_,?_,s2,I.sb⟩
 ·have:out++ra.take k++(ra.drop k++rb)=out++(ra++rb):=by
   rw[List.append_assoc,←List.append_assoc (ra.take k),e]
  rw[this];exact I.perm
 ·refine List.pairwise_append.mpr ⟨I.srt,s1,fun x hx y hy=>I.lo x hx y ?_⟩
  exact List.mem_append.mpr (.inl (List.mem_of_mem_take hy))
 ·intro x hx y hy
  rcases List.mem_append.mp hx with hx|hx
  ·rcases List.mem_append.mp hy with hy|hy
   ·exact I.lo x hx y (List.mem_append.mpr (.inl (List.mem_of_mem_drop hy)))
   ·exact I.lo x hx y (List.mem_append.mpr (.inr hy))
  ·rcases List.mem_append.mp hy with hy|hy
   ·exact s3 x hx y hy
   ·exact h x hx y hy
theorem MI.addB(I:MI kx a b out ra rb) (k:Nat) (h:∀y∈rb.take k,∀x∈ra,kx y≤kx x):MI kx a b (out++rb.take k) ra (rb.drop k):=by
 revert kx a b out ra rb I k h;k_extra "e6";intro kx a b out ra rb I k h
 have e:rb.take k++rb.drop k=rb:=List.take_append_drop k rb
 have s:=I.sb
 rw[←e]at s
 obtain⟨s1,s2,s3⟩:=List.pairwise_append.mp s
 refine⟨?_,?_,?_,I.sa,s2⟩
 ·refine List.Perm.trans ?_ I.perm
  rw[List.append_assoc]
  refine List.Perm.append_left out ?_
  have:ra++rb=ra++(rb.take k++rb.drop k):=by rw[e]
  rw[this]
  exact List.perm_append_comm_assoc _ _ _
 ·refine List.pairwise_append.mpr ⟨I.srt,s1,fun x hx y hy=>I.lo x hx y ?_⟩
  exact List.mem_append.mpr (.inr (List.mem_of_mem_take hy))
 ·intro x hx y hy
  rcases List.mem_append.mp hx with hx|hx
  ·rcases List.mem_append.mp hy with hy|hy
   ·exact I.lo x hx y (List.mem_append.mpr (.inl hy))
   ·exact I.lo x hx y (List.mem_append.mpr (.inr (List.mem_of_mem_drop hy)))
  ·rcases List.mem_append.mp hy with hy|hy
   ·exact h x hx y hy
   ·exact s3 x hx y hy
noncomputable def Fin' (kx:Keyed->Int) (a b r:List Keyed):Prop:=r.Perm (a++b)∧SrtL kx r
theorem MI.fin(I:MI kx a b out ra rb) (h:∀x∈ra,∀y∈rb,kx x≤kx y):Fin' kx a b (out++ra++rb):=by
 rw[List.append_assoc]
 exact⟨I.perm,List.pairwise_append.mpr ⟨I.srt,List.pairwise_append.mpr ⟨I.sa,I.sb,h⟩,I.lo⟩⟩
theorem MI.finB(I:MI kx a b out ra rb) (h:∀x∈ra,∀y∈rb,kx y≤kx x):Fin' kx a b (out++rb++ra):=by
 rw[List.append_assoc]
 refine⟨(List.Perm.append_left out List.perm_append_comm).trans I.perm,List.pairwise_append.mpr ⟨I.srt,List.pairwise_append.mpr ⟨I.sb,I.sa,fun x hx y hy=>h y hy x hx⟩,fun x hx y hy=>I.lo x hx y ?_⟩⟩
 rcases List.mem_append.mp hy with hy|hy
 ·exact List.mem_append.mpr (.inr hy)
 ·exact List.mem_append.mpr (.inl hy)
theorem Zl(xs:Array Keyed) (i k:Nat):(xs.extract i k).toList=(xs.toList.drop i).take (k-i):=by
 rw[Array.toList_extract]
theorem Z1o(xs:Array Keyed) (i:Nat):(xs.extract i xs.size).toList=xs.toList.drop i:=by
 rw[Zl,List.take_of_length_le (by simp)]
variable {M:Model} {A:Around} {E:pS} {s:Shared} {κ:SortKind} {G:Keyed->Prop}
theorem Z26{l:List Keyed} (hs:SrtL kx l) {i j:Nat} {x y:Keyed} (hij:i≤j) (hx:l[i]?=some x) (hy:l[j]?=some y):kx x≤kx y:=by
 obtain⟨hi,ex⟩:=List.getElem?_eq_some_iff.mp hx
 obtain⟨hj,ey⟩:=List.getElem?_eq_some_iff.mp hy
 rcases Nat.lt_or_ge i j with h|h
 ·have:=List.pairwise_iff_getElem.mp hs i j hi hj h
  rw[ex,ey]at this;exact this
 ·have:i=j:=by exact YO hij h
  subst this
  rw[ex]at ey;rw[ey];exact Int.le_refl _
theorem Z10(arr:Array Keyed) (base n i:Nat) (hi:i<n):((arr.toList.drop base).take n)[i]?=arr[base+i]?:=by
 rw[List.getElem?_take_of_lt hi,List.getElem?_drop];simp
theorem Z11{left:Bool} {key:Keyed} {arr:Array Keyed} {base n hint:Nat} {st:SortSt} {Q:Option Nat->SortSt->Prop} (c:Ask M A E s κ G kx) (hk:kindOf st=κ) (hkey:G key) (hG:∀x∈arr.toList,G x) (hs:SrtL kx ((arr.toList.drop base).take n)) (hn:base+n≤arr.size) (hh:hint<n) (h:∀k,k≤n->(∀x∈(arr.toList.drop base).take k,kx x≤kx key∧(left=true->kx x<kx key))->(∀x∈((arr.toList.drop base).take n).drop k,kx key≤kx x∧(left=false->kx key<kx x))->Q (some k) st):wpS M A E s (Zq left key arr base n hint) Q st:=by
 revert kx M A E s κ G left key arr base n hint st Q;k_extra "e15";intro kx M A E s κ G left key arr base n hint st Q c hk hkey hG hs hn hh h
 have at_:∀i,i<n->∃x,arr[base+i]?=some x∧x∈arr.toList:=fun i hi=>by
  have:base+i<arr.size:=by exact Yb hn hi
  exact⟨arr[base+i],by simp[this],by simp⟩
 refine Z4k c hk hkey (fun i hi=>by obtain⟨x,e,m⟩:=at_ i hi;exact⟨x,e,hG x m⟩) hh ?_ fun k h1 h2 h3=>h k h1 ?_ ?_
 ·intro i j hij hj hb
  obtain⟨x,ex,_⟩:=at_ i (by exact Y29 hij hj)
  obtain⟨y,ey,_⟩:=at_ j hj
  have:=Z26 hs hij ((Z10 arr base n i (by exact Y29 hij hj)).trans ex) ((Z10 arr base n j hj).trans ey)
  unfold bey at hb ⊢
  rw[ex];rw[ey]at hb
  cases left
  ·simp only[Bool.false_eq_true,if_false,Bool.not_eq_true',decide_eq_false_iff_not]at hb ⊢
   exact Y2a this hb
  ·simp only[if_true,decide_eq_true_eq]at hb ⊢
   exact Y2b this hb
 ·intro x hx
  obtain⟨i,hi⟩:=List.mem_iff_getElem?.mp hx
  have hik:i<k:=by
   have:=(List.getElem?_eq_some_iff.mp hi).1
   simp at this;exact Y2c this
  rw[Z10 arr base k i hik]at hi
  have hb:=h2 i hik
  unfold bey at hb
  rw[hi]at hb
  cases left
  ·simp only[Bool.false_eq_true,if_false,Bool.not_eq_true',decide_eq_false_iff_not]at hb
   exact⟨by exact Yg hb,fun z=>by cases z⟩
  ·simp only[if_true,decide_eq_true_eq]at hb
   exact⟨by exact Yr hb,fun _=>hb⟩
 ·intro x hx
  obtain⟨i,hi⟩:=List.mem_iff_getElem?.mp hx
  rw[List.getElem?_drop]at hi
  have hik:k+i<n:=by
   have:=(List.getElem?_eq_some_iff.mp hi).1
   simp at this;exact Y2d this
  rw[Z10 arr base n _ hik]at hi
  have hb:=h3 (k+i) (by exact Y17) hik
  unfold bey at hb
  rw[hi]at hb
  cases left
  ·simp only[Bool.false_eq_true,if_false,Bool.not_eq_false',decide_eq_true_eq]at hb
   exact⟨by exact Yr hb,fun _=>hb⟩
  ·simp only[if_true,decide_eq_false_iff_not]at hb
   exact⟨by exact Yg hb,fun z=>by cases z⟩
abbrev MA(kx:Keyed->Int) (a b out:Array Keyed) (ia ib:Nat):Prop:=MI kx a.toList b.toList out.toList (a.toList.drop ia) (b.toList.drop ib)
section
variable {a b out:Array Keyed} {ia ib:Nat}
theorem Zm{xs:Array Keyed} {i:Nat} {x:Keyed} (e:xs[i]?=some x):xs.toList.drop i=x::xs.toList.drop (i+1):=by
 have e':xs.toList[i]?=some x:=by simpa using e
 obtain⟨hi,rfl⟩:=List.getElem?_eq_some_iff.mp e'
 exact List.drop_eq_getElem_cons hi
theorem MA.pushB{y:Keyed} (I:MA kx a b out ia ib) (ey:b[ib]?=some y) (h:∀x∈a.toList.drop ia,kx y≤kx x):MA kx a b (out.push y) ia (ib+1):=by
 have:=MI.addB I 1 (by rw[Zm ey];simpa using h)
 rw[Zm ey]at this
 unfold MA
 rw[Array.toList_push]
 simpa using this
theorem MA.pushA{x:Keyed} (I:MA kx a b out ia ib) (ex:a[ia]?=some x) (h:∀y∈b.toList.drop ib,kx x≤kx y):MA kx a b (out.push x) (ia+1) ib:=by
 have:=MI.addA I 1 (by rw[Zm ex];simpa using h)
 rw[Zm ex]at this
 unfold MA
 rw[Array.toList_push]
 simpa using this
theorem MA.extA(k:Nat) (I:MA kx a b out ia ib) (h:∀x∈(a.toList.drop ia).take k,∀y∈b.toList.drop ib,kx x≤kx y):MA kx a b (out++a.extract ia (ia+k)) (ia+k) ib:=by
 have:=MI.addA I k h
 rw[List.drop_drop]at this
 have e:(out++a.extract ia (ia+k)).toList=out.toList++(a.toList.drop ia).take k:=by
  rw[Array.toList_append,Zl];simp
 unfold MA
 rw[e];exact this
theorem MA.extB(k:Nat) (I:MA kx a b out ia ib) (h:∀y∈(b.toList.drop ib).take k,∀x∈a.toList.drop ia,kx y≤kx x):MA kx a b (out++b.extract ib (ib+k)) ia (ib+k):=by
 have:=MI.addB I k h
 rw[List.drop_drop]at this
 have e:(out++b.extract ib (ib+k)).toList=out.toList++(b.toList.drop ib).take k:=by
  rw[Array.toList_append,Zl];simp
 unfold MA
 rw[e];exact this
theorem MA.headA{x:Keyed} (I:MA kx a b out ia ib) (ex:a[ia]?=some x):∀z∈a.toList.drop ia,kx x≤kx z:=by
 intro z hz
 have:=I.sa
 rw[Zm ex]at this hz
 rcases List.mem_cons.mp hz with rfl|hz
 ·exact Int.le_refl _
 ·exact(List.pairwise_cons.mp this).1 z hz
theorem MA.headB{y:Keyed} (I:MA kx a b out ia ib) (ey:b[ib]?=some y):∀z∈b.toList.drop ib,kx y≤kx z:=by
 intro z hz
 have:=I.sb
 rw[Zm ey]at this hz
 rcases List.mem_cons.mp hz with rfl|hz
 ·exact Int.le_refl _
 ·exact(List.pairwise_cons.mp this).1 z hz
theorem MA.len(I:MA kx a b out ia ib) (ha:ia≤a.size) (hb:ib≤b.size):out.size=ia+ib:=by
 have:=I.perm.length_eq
 simp at this
 exact Y2e ha hb this
theorem MA.done(I:MA kx a b out ia ib) (h:a.size≤ia∨b.size≤ib):Fin' kx a.toList b.toList (out++a.extract ia a.size++b.extract ib b.size).toList:=by
 rw[Array.toList_append,Array.toList_append,Z1o,Z1o]
 refine MI.fin I ?_
 rcases h with h|h
 ·rw[List.drop_of_length_le (by simpa using h)];simp
 ·rw[List.drop_of_length_le (l:=b.toList) (by simpa using h)];simp
theorem MA.last(I:MA kx a b out ia ib) (h:∀x∈a.toList.drop ia,∀y∈b.toList.drop ib,kx y≤kx x):Fin' kx a.toList b.toList (out++b.extract ib b.size++a.extract ia a.size).toList:=by
 rw[Array.toList_append,Array.toList_append,Z1o,Z1o]
 exact MI.finB I h
end
end
end Mine
set_option maxHeartbeats 1000000
namespace Mine
open PySem PyProof.Rows
section
variable {prog:Program} {w:World} {A:Around} {E:pS} {s:Shared} {κ:SortKind} {G:Keyed->Prop} {kx:Keyed->Int}
theorem Z9{xs:Array Keyed} {i:Nat} (h:i<xs.size):∃x,xs[i]?=some x∧x∈xs.toList:=⟨xs[i],by simp[h],by simp⟩
theorem Z4W{l:List Keyed} {i:Nat} {x:Keyed} (h:x∈l.drop i):x∈l:=List.mem_of_mem_drop h
structure Alv(kx:Keyed->Int) (a b:Array Keyed) (n0:Nat) (out:Array Keyed) (ia ib:Nat):Prop where
 I:MA kx a b out ia ib
 ha:ia+1<a.size
 hb:ib<b.size
 hn:n0≤out.size
section
variable {M:Model} {α β γ δ R T:Type} {Q:α->SortSt->Prop} {st:SortSt}
theorem Z8{m n:Nat} {x y:StateT SortSt Sem α} (h1:m=n->wpS M A E s x Q st) (h2:¬m=n->wpS M A E s y Q st):wpS M A E s (if (m==n)=true then x else y) Q st:=
 Z3 (fun q=>h1 (beq_iff_eq.mp q)) fun q=>h2 fun z=>q (beq_iff_eq.mpr z)
theorem Z27{p:Prop} {d:Decidable p} {x y:StateT SortSt Sem α} (h1:p->wpS M A E s x Q st) (h2:¬p->wpS M A E s y Q st):wpS M A E s (if decide p=true then x else y) Q st:=
 Z3 (fun q=>h1 (of_decide_eq_true q)) fun q=>h2 fun z=>q (decide_eq_true z)
noncomputable def Sg (st st':SortSt):Prop:=∃g,st'=ZZ st g
theorem Sg.refl:Sg st st:=⟨gallopOf st,rfl⟩
theorem Sg.set{st':SortSt} (h:Sg st st') (g:Nat):Sg st (ZZ st' g):=by
 obtain⟨g',rfl⟩:=h
 exact⟨g,rfl⟩
theorem Sg.kind{st':SortSt} (h:Sg st st') (hk:kindOf st=κ):kindOf st'=κ:=by
 obtain⟨g',rfl⟩:=h
 exact hk
noncomputable def Z6C (I:T->SortSt->Prop) (D:T->SortSt->Prop) (F:R->SortSt->Prop):ForInStep (Option R×T)->SortSt->Prop
 | .done (none,t),st=>D t st
 | .done (some r,_),st=>F r st
 | .yield (none,t),st=>I t st
 | .yield (some _,_),_=>False
noncomputable def Z6D (D:T->SortSt->Prop) (F:R->SortSt->Prop):Option R×T->SortSt->Prop
 | (none,t),st=>D t st
 | (some r,_),st=>F r st
theorem ZB{n:Nat} {body:Nat->Option R×T->StateT SortSt Sem (ForInStep (Option R×T))} {t0:T} (I:Nat->T->SortSt->Prop) (D:T->SortSt->Prop) (F:R->SortSt->Prop)
  (step:∀x t st,x<n->I x t st->wpS M A E s (body x (none,t)) (Z6C (I (x+1)) D F) st) (h0:I 0 t0 st) (hend:∀t st,I n t st->D t st) {f:Option R×T->StateT SortSt Sem α}
  (hN:∀t st,D t st->wpS M A E s (f (none,t)) Q st) (hS:∀r t st,F r st->wpS M A E s (f (some r,t)) Q st):wpS M A E s (forIn [0:n] (none,t0) body>>=f) Q st:=by
 refine wpS_bind (wpS_mono (wpS_forRange (I:=fun x r st=>∃t,r=(none,t)∧I x t st) (Q:=fun r st=>Z6D D F r st) ?_ ?_ ⟨t0,rfl,h0⟩) fun r st h=>by
  rcases r with⟨_|r,t⟩
  ·exact hN t st h
  ·exact hS r t st h)
 ·rintro x r st' - hx ⟨t,rfl,hI⟩
  refine wpS_mono (step x t st' hx hI) fun q st2 hq=>?_
  rcases q with⟨_|r,t⟩|⟨_|r,t⟩
  ·exact hq
  ·exact hq
  ·exact⟨t,rfl,hq⟩
  ·exact hq.elim
 ·rintro r st' ⟨t,rfl,hI⟩
  refine hend t st' ?_
  rw[show n=max 0 n from(Nat.max_eq_right (Nat.zero_le n)).symm]
  exact hI
end
abbrev KA:=Array Keyed
abbrev L5:=Option KA×KA×Nat×Nat×Nat
abbrev L6:=Option KA×KA×Nat×Nat×Nat×Nat
abbrev L7:=Option KA×KA×Nat×Nat×Nat×Nat×Nat
noncomputable def loD (a b out:KA) (ia ib:Nat):KA:=out++a.extract ia a.size++b.extract ib b.size
noncomputable def loL (a b out:KA) (ia ib:Nat):KA:=out++b.extract ib b.size++a.extract ia a.size
noncomputable def lo1 (a b:KA) (mg:Nat) (out:KA) (ia ib ac bc:Nat):StateT SortSt Sem (ForInStep L6):=
 elem' b ib>>=fun y=>elem' a ia>>=fun x=>lt' y x>>=fun w=>match w with
 | some z=>if z=true then elem' b ib>>=fun y=>
   if (ib+1==b.size)=true then pure (.done (some (loD a b (out.push y) ia (ib+1)),out.push y,ia,ib+1,0,bc+1))
   else if bc+1≥mg then pure (.done (none,out.push y,ia,ib+1,0,bc+1)) else pure (.yield (none,out.push y,ia,ib+1,0,bc+1))
  else elem' a ia>>=fun x=>
   if (ia+1+1==a.size)=true then pure (.done (some (loL a b (out.push x) (ia+1) ib),out.push x,ia+1,ib,ac+1,0))
   else if ac+1≥mg then pure (.done (none,out.push x,ia+1,ib,ac+1,0)) else pure (.yield (none,out.push x,ia+1,ib,ac+1,0))
 | _=>pure (.done (some (loD a b out ia ib),out,ia,ib,ac,bc))
noncomputable def lo2D (a b out:KA) (ia ib mg k k1:Nat):StateT SortSt Sem (ForInStep L7):=elem' a ia>>=fun x=>
 if (ia+1+1==a.size)=true then pure (.done (some (loL a b (out.push x) (ia+1) ib),out.push x,ia+1,ib,mg,k,k1))
 else if (decide (k<7)&&decide (k1<7))=true then pure (.done (none,out.push x,ia+1,ib,mg,k,k1)) else pure (.yield (none,out.push x,ia+1,ib,mg,k,k1))
noncomputable def lo2C (a b out:KA) (ia ib mg k k0:Nat):StateT SortSt Sem (ForInStep L7):=elem' b ib>>=fun y=>
 if (ib+1==b.size)=true then pure (.done (some (loD a b (out.push y) ia (ib+1)),out.push y,ia,ib+1,mg,k,k0))
 else elem' a ia>>=fun x=>Zq true x b (ib+1) (b.size-(ib+1)) 0>>=fun w=>match w with
  | some k1=>if k1>0 then(if (ib+1+k1==b.size)=true then pure (.done (some (loD a b (out.push y++b.extract (ib+1) (ib+1+k1)) ia (ib+1+k1)),out.push y++b.extract (ib+1) (ib+1+k1),ia,ib+1+k1,mg,k,k1))
    else lo2D a b (out.push y++b.extract (ib+1) (ib+1+k1)) ia (ib+1+k1) mg k k1)
   else lo2D a b (out.push y) ia (ib+1) mg k k1
  | _=>pure (.done (some (loD a b (out.push y) ia (ib+1)),out.push y,ia,ib+1,mg,k,k0))
noncomputable def lo2 (a b out:KA) (ia ib ac bc mg:Nat):StateT SortSt Sem (ForInStep L7):=modify (fun s=>ZZ s mg)>>=fun _=>elem' b ib>>=fun y=>Zq false y a ia (a.size-ia) 0>>=fun w=>match w with
 | some k=>if k>0 then(if (ia+k+1==a.size)=true then pure (.done (some (loL a b (out++a.extract ia (ia+k)) (ia+k) ib),out++a.extract ia (ia+k),ia+k,ib,mg,k,bc))
   else if (ia+k==a.size)=true then pure (.done (some (loD a b (out++a.extract ia (ia+k)) (ia+k) ib),out++a.extract ia (ia+k),ia+k,ib,mg,k,bc))
   else lo2C a b (out++a.extract ia (ia+k)) (ia+k) ib mg k bc)
  else lo2C a b out ia ib mg k bc
 | _=>pure (.done (some (loD a b out ia ib),out,ia,ib,mg,ac,bc))
noncomputable def lo3 (a b out:KA) (ia ib mg:Nat):StateT SortSt Sem (ForInStep L5):=
 forIn [0:a.size+b.size] ((none,out,ia,ib,0,0):L6) (fun _ r=>lo1 a b mg r.2.1 r.2.2.1 r.2.2.2.1 r.2.2.2.2.1 r.2.2.2.2.2)>>=fun s=>match s.1 with
 | some r=>pure (.done (some r,s.2.1,s.2.2.1,s.2.2.2.1,mg))
 | none=>liftM (rule "list.sort.gallop")>>=fun _=>
  forIn [0:a.size+b.size] ((none,s.2.1,s.2.2.1,s.2.2.2.1,mg+1,s.2.2.2.2.1,s.2.2.2.2.2):L7) (fun _ r=>if r.2.2.2.2.1>1 then lo2 a b r.2.1 r.2.2.1 r.2.2.2.1 r.2.2.2.2.2.1 r.2.2.2.2.2.2 (r.2.2.2.2.1-1) else lo2 a b r.2.1 r.2.2.1 r.2.2.2.1 r.2.2.2.2.2.1 r.2.2.2.2.2.2 r.2.2.2.2.1)>>=fun q=>match q.1 with
  | some r=>pure (.done (some r,q.2.1,q.2.2.1,q.2.2.2.1,q.2.2.2.2.1))
  | none=>modify (fun s=>ZZ s (q.2.2.2.2.1+1))>>=fun _=>pure (.yield (none,q.2.1,q.2.2.1,q.2.2.2.1,q.2.2.2.2.1+1))
theorem Z2m(a b:KA):Z1F a b=(liftM (rule "list.sort.merge-lo")>>=fun _=>elem' b 0>>=fun y=>
  if (1==b.size)=true then pure (loD a b #[y] 0 1) else if (0+1==a.size)=true then pure (loL a b #[y] 0 1)
  else get>>=fun s=>forIn [0:a.size+b.size] ((none,#[y],0,1,gallopOf s):L5) (fun _ r=>lo3 a b r.2.1 r.2.2.1 r.2.2.2.1 r.2.2.2.2)>>=fun q=>match q.1 with
   | some r=>pure r
   | none=>liftM (unsupported "internal:list.sort.merge-bound":Sem (Array Keyed))):=by kernel_rfl
structure LoC(κ:SortKind) (G:Keyed->Prop) (kx:Keyed->Int) (a b:KA) (st:SortSt):Prop where
 hk:kindOf st=κ
 Ga:∀x∈a.toList,G x
 Gb:∀x∈b.toList,G x
 last:∀{out:KA} {ia ib:Nat},MA kx a b out ia ib->ia+1=a.size->Fin' kx a.toList b.toList (loL a b out ia ib).toList
noncomputable def LoF (kx:Keyed->Int) (a b:KA) (st:SortSt) (r:KA) (st':SortSt):Prop:=Sg st st'∧Fin' kx a.toList b.toList r.toList
noncomputable def LoN (kx:Keyed->Int) (a b:KA) (st:SortSt) (n:Nat) (out:KA) (ia ib:Nat) (st':SortSt):Prop:=Sg st st'∧Alv kx a b n out ia ib
section
variable {a b out:KA} {st0 st:SortSt} {ia ib mg n:Nat}
theorem Alv.mono{m:Nat} (L:Alv kx a b n out ia ib) (h:m≤n):Alv kx a b m out ia ib:=⟨L.I,L.ha,L.hb,Nat.le_trans h L.hn⟩
theorem Z5Q{ac bc:Nat} {Q:ForInStep L6->SortSt->Prop} (c:Ask (model prog w) A E s κ G kx) (K:LoC κ G kx a b st0) (S:Sg st0 st) (L:Alv kx a b n out ia ib) (hF:∀r t st',LoF kx a b st0 r st'->Q (.done (some r,t)) st') (hN:∀out ia ib u st',LoN kx a b st0 (n+1) out ia ib st'->Q (.done (none,out,ia,ib,u)) st'∧Q (.yield (none,out,ia,ib,u)) st'):wpS (model prog w) A E s (lo1 a b mg out ia ib ac bc) Q st:=by
 revert prog w A E s κ G kx a b out st0 st ia ib mg n ac bc Q;k_extra "e15";intro prog w A E s κ G kx a b out st0 st ia ib;k_extra "e5";intro mg n ac bc Q c K S L hF hN
 obtain⟨xa,ea,ma⟩:=Z9 (Nat.lt_of_succ_lt L.ha)
 obtain⟨xb,eb,mb⟩:=Z9 L.hb
 refine wpS_bind (Z4 eb (wpS_bind (Z4 ea (wpS_bind (c.ask xb xa _ _ (K.Gb _ mb) (K.Ga _ ma) (S.kind K.hk) (Z27 (fun hw=>?_) fun hw=>?_))))))
 ·have I2:=L.I.pushB eb fun u hu=>Int.le_trans (Int.le_of_lt hw) (L.I.headA ea u hu)
  refine wpS_bind (Z4 eb (Z8 (fun q=>wpS_pure (hF _ _ _ ⟨S,I2.done (.inr (Nat.le_of_eq q.symm))⟩)) fun q=>?_))
  have z:=fun u=>hN _ _ _ u _ ⟨S,I2,L.ha,Nat.lt_of_le_of_ne L.hb q,by rw[Array.size_push];exact Nat.succ_le_succ L.hn⟩
  exact Z3 (fun _=>wpS_pure (z _).1) fun _=>wpS_pure (z _).2
 ·have I2:=L.I.pushA ea fun u hu=>Int.le_trans (Int.not_lt.mp hw) (L.I.headB eb u hu)
  refine wpS_bind (Z4 ea (Z8 (fun q=>wpS_pure (hF _ _ _ ⟨S,K.last I2 q⟩)) fun q=>?_))
  have z:=fun u=>hN _ _ _ u _ ⟨S,I2,Nat.lt_of_le_of_ne L.ha q,L.hb,by rw[Array.size_push];exact Nat.succ_le_succ L.hn⟩
  exact Z3 (fun _=>wpS_pure (z _).1) fun _=>wpS_pure (z _).2
theorem Z3j{xa:Keyed} {k k1:Nat} {Q:ForInStep L7->SortSt->Prop} (K:LoC κ G kx a b st0) (S:Sg st0 st) (m1:ia+1<a.size) (n1:ib<b.size) (m2:n≤out.size) (I:MA kx a b out ia ib) (ea:a[ia]?=some xa) (n4:∀u∈b.toList.drop ib,kx xa≤kx u)
  (hF:∀r t st',LoF kx a b st0 r st'->Q (.done (some r,t)) st') (hN:∀out ia ib u st',LoN kx a b st0 n out ia ib st'->Q (.done (none,out,ia,ib,u)) st'∧Q (.yield (none,out,ia,ib,u)) st'):wpS (model prog w) A E s (lo2D a b out ia ib mg k k1) Q st:=by
 have I5:=I.pushA ea n4
 refine wpS_bind (Z4 ea (Z8 (fun q=>wpS_pure (hF _ _ _ ⟨S,K.last I5 q⟩)) fun q=>?_))
 have z:=fun u=>hN _ _ _ u _ ⟨S,I5,Nat.lt_of_le_of_ne m1 q,n1,by rw[Array.size_push];exact Nat.le_succ_of_le m2⟩
 exact Z3 (fun _=>wpS_pure (z _).1) fun _=>wpS_pure (z _).2
theorem Z3k{xb:Keyed} {k k0:Nat} {Q:ForInStep L7->SortSt->Prop} (c:Ask (model prog w) A E s κ G kx) (K:LoC κ G kx a b st0) (S:Sg st0 st) (m1:ia+1<a.size) (n1:ib<b.size) (m2:n≤out.size) (I:MA kx a b out ia ib) (eb:b[ib]?=some xb) (m4:∀u∈a.toList.drop ia,kx xb≤kx u) (hF:∀r t st',LoF kx a b st0 r st'->Q (.done (some r,t)) st') (hN:∀out ia ib u st',LoN kx a b st0 n out ia ib st'->Q (.done (none,out,ia,ib,u)) st'∧Q (.yield (none,out,ia,ib,u)) st'):wpS (model prog w) A E s (lo2C a b out ia ib mg k k0) Q st:=by
 revert prog w A E s κ G kx a b out st0 st ia ib mg n xb k k0 Q;k_extra "e15";intro prog w A E s κ G kx a b out st0 st ia ib;k_extra "e6";intro mg n xb k k0 Q c K S m1 n1 m2 I eb m4 hF hN
 have I3:=I.pushB eb m4
 refine wpS_bind (Z4 eb (Z8 (fun q=>wpS_pure (hF _ _ _ ⟨S,I3.done (.inr (Nat.le_of_eq q.symm))⟩)) fun q=>?_))
 have q5:=Nat.lt_of_le_of_ne n1 q
 obtain⟨xa,ea,ma⟩:=Z9 (Nat.lt_of_succ_lt m1)
 have m5:n≤(out.push xb).size:=by rw[Array.size_push];exact Nat.le_succ_of_le m2
 refine wpS_bind (Z4 ea (wpS_bind (Z11 (base:=ib+1) (n:=b.size-(ib+1)) c (S.kind K.hk) (K.Ga _ ma) K.Gb ?_ ?_ (Nat.sub_pos_of_lt q5) fun k' j1 j2 j3=>Z3 (fun hk1=>Z8 (fun q=>?_) fun q=>?_) fun hk1=>?_)))
 ·rw[List.take_of_length_le (by simp)];exact I3.sb
 ·exact Nat.le_of_eq (Nat.add_sub_of_le (Nat.le_of_lt q5))
 all_goals rw[List.take_of_length_le (i:=b.size - (ib+1)) (by simp),List.drop_drop]at j3
 ·exact wpS_pure (hF _ _ _ ⟨S,(I3.extB k' fun u hu v hv=>Int.le_trans (j2 u hu).1 (I3.headA ea v hv)).done (.inr (Nat.le_of_eq q.symm))⟩)
 ·exact Z3j K S m1 (Nat.lt_of_le_of_ne (Nat.add_le_of_le_sub' (Nat.le_of_lt q5) j1) q) (by rw[Array.size_append];exact Nat.le_add_right_of_le m5) (I3.extB k' fun u hu v hv=>Int.le_trans (j2 u hu).1 (I3.headA ea v hv)) ea (fun u hu=>(j3 u hu).1) hF hN
 ·obtain rfl:k'=0:=Nat.eq_zero_of_not_pos hk1
  exact Z3j K S m1 q5 m5 I3 ea (fun u hu=>(j3 u hu).1) hF hN
theorem Z4l{ac bc:Nat} {Q:ForInStep L7->SortSt->Prop} (c:Ask (model prog w) A E s κ G kx) (K:LoC κ G kx a b st0) (S:Sg st0 st) (L:Alv kx a b n out ia ib) (hF:∀r t st',LoF kx a b st0 r st'->Q (.done (some r,t)) st') (hN:∀out ia ib u st',LoN kx a b st0 n out ia ib st'->Q (.done (none,out,ia,ib,u)) st'∧Q (.yield (none,out,ia,ib,u)) st'):wpS (model prog w) A E s (lo2 a b out ia ib ac bc mg) Q st:=by
 revert prog w A E s κ G kx a b out st0 st ia ib mg n ac bc Q;k_extra "e15";intro prog w A E s κ G kx a b out st0 st ia ib;k_extra "e5";intro mg n ac bc Q c K S L hF hN
 obtain⟨xb,eb,mb⟩:=Z9 L.hb
 have hlt:=Nat.lt_of_succ_lt L.ha
 refine wpS_bind (wpS_modify (wpS_bind (Z4 eb (wpS_bind (Z11 (base:=ia) (n:=a.size-ia) c (S.kind K.hk) (K.Gb _ mb) K.Ga ?_ ?_ (Nat.sub_pos_of_lt hlt) fun k k1 k2 k3=>Z3 (fun hk1=>Z8 (fun q=>?_) fun q=>Z8 (fun q'=>?_) fun q'=>?_) fun hk1=>?_)))))
 ·rw[List.take_of_length_le (by simp)];exact L.I.sa
 ·exact Nat.le_of_eq (Nat.add_sub_of_le (Nat.le_of_lt hlt))
 all_goals rw[List.take_of_length_le (i:=a.size - ia) (by simp),List.drop_drop]at k3
 ·exact wpS_pure (hF _ _ _ ⟨S.set _,K.last (L.I.extA k fun u hu v hv=>Int.le_trans (k2 u hu).1 (L.I.headB eb v hv)) q⟩)
 ·exact wpS_pure (hF _ _ _ ⟨S.set _,(L.I.extA k fun u hu v hv=>Int.le_trans (k2 u hu).1 (L.I.headB eb v hv)).done (.inl (Nat.le_of_eq q'.symm))⟩)
 ·exact Z3k c K (S.set _) (Nat.lt_of_le_of_ne (Nat.lt_of_le_of_ne (Nat.add_le_of_le_sub' (Nat.le_of_lt hlt) k1) q') q) L.hb (by rw[Array.size_append];exact Nat.le_add_right_of_le L.hn) (L.I.extA k fun u hu v hv=>Int.le_trans (k2 u hu).1 (L.I.headB eb v hv)) eb (fun u hu=>(k3 u hu).1) hF hN
 ·obtain rfl:k=0:=Nat.eq_zero_of_not_pos hk1
  exact Z3k c K (S.set _) L.ha L.hb L.hn L.I eb (fun u hu=>(k3 u hu).1) hF hN
theorem Z5R(c:Ask (model prog w) A E s κ G kx) {Q:ForInStep L5->SortSt->Prop} (K:LoC κ G kx a b st0) (S:Sg st0 st) (L:Alv kx a b n out ia ib)
  (hF:∀r t st',LoF kx a b st0 r st'->Q (.done (some r,t)) st') (hN:∀out ia ib u st',LoN kx a b st0 (n+1) out ia ib st'->Q (.yield (none,out,ia,ib,u)) st'):wpS (model prog w) A E s (lo3 a b out ia ib mg) Q st:=by
 refine ZB (t0:=(out,ia,ib,0,0)) (fun z (t:KA×Nat×Nat×Nat×Nat) st'=>LoN kx a b st0 (n+min z 1) t.1 t.2.1 t.2.2.1 st') (fun t st'=>LoN kx a b st0 (n+1) t.1 t.2.1 t.2.2.1 st') (LoF kx a b st0) (fun z t st' hz I=>Z5Q c K I.1 (I.2.mono (Nat.le_add_right n _)) (fun _ _ _ z=>z) fun _ _ _ _ _ I=>⟨I,I.1,I.2.mono (Nat.add_le_add_left (Nat.min_le_right _ _) _)⟩) ⟨S,L⟩ (fun t st' I=>⟨I.1,I.2.mono (Nat.le_of_eq ?_)⟩) (fun t st' I=>wpS_bind (wpS_lift (wpAny_rule ⟨rfl,?_⟩))) fun r t st' z=>wpS_pure (hF _ _ _ z)
 ·rw[Nat.min_eq_right]
  exact Nat.le_trans (Nat.succ_le_of_lt (Nat.lt_of_le_of_lt (Nat.zero_le _) L.ha)) (Nat.le_add_right _ _)
 ·refine ZB (t0:=(t.1,t.2.1,t.2.2.1,mg+1,t.2.2.2.1,t.2.2.2.2)) (fun _ (t:KA×Nat×Nat×Nat×Nat×Nat) st'=>LoN kx a b st0 (n+1) t.1 t.2.1 t.2.2.1 st') (fun t st'=>LoN kx a b st0 (n+1) t.1 t.2.1 t.2.2.1 st') (LoF kx a b st0) (fun z t st' hz I=>?_) I (fun t st' I=>I) (fun t st' I=>wpS_bind (wpS_modify (wpS_pure (hN _ _ _ _ _ ⟨I.1.set _,I.2⟩)))) fun r t2 st' hr=>wpS_pure (hF _ _ _ hr)
  exact Z3 (fun _=>Z4l c K I.1 I.2 (fun _ _ _ z=>z) fun _ _ _ _ _ I=>⟨I,I⟩) fun _=>Z4l c K I.1 I.2 (fun _ _ _ z=>z) fun _ _ _ _ _ I=>⟨I,I⟩
end
theorem Z3K{a b:Array Keyed} {st:SortSt} {Q:Array Keyed->SortSt->Prop} (c:Ask (model prog w) A E s κ G kx) (hk:kindOf st=κ) (Ga:∀x∈a.toList,G x) (Gb:∀x∈b.toList,G x) (sa:SrtL kx a.toList) (sb:SrtL kx b.toList) (ha:1≤a.size) (hb:1≤b.size) (h0:∀y,b[0]?=some y->∀x∈a.toList,kx y≤kx x) (h1:∀x,a[a.size-1]?=some x->∀y∈b.toList,kx y≤kx x) (h:∀r st',Sg st st'->Fin' kx a.toList b.toList r.toList->Q r st'):wpS (model prog w) A E s (Z1F a b) Q st:=by
 revert prog w A E s κ G kx a b st Q;k_extra "e12";intro prog w A E s κ G kx a b st Q c hk Ga Gb sa sb ha hb h0 h1 h
 have K:LoC κ G kx a b st:=⟨hk,Ga,Gb,fun{out ia ib} I e=>by
  refine I.last fun x hx y hy=>?_
  obtain⟨z,ez,_⟩:=Z9 (xs:=a) (i:=ia) (by exact Y2f e)
  rw[Zm ez,List.drop_of_length_le (by simp;exact Y2g e)]at hx
  rw[List.mem_singleton.mp hx]
  exact h1 z (by rw[show a.size-1=ia from Nat.sub_eq_of_eq_add e.symm];exact ez) y (Z4W hy)⟩
 obtain⟨y0,ey0,my0⟩:=Z9 (xs:=b) (i:=0) hb
 have I0:MA kx a b #[] 0 0:=⟨by simp,List.Pairwise.nil,by simp,by simpa using sa,by simpa using sb⟩
 have I1:MA kx a b #[y0] 0 1:=I0.pushB ey0 (by simpa using h0 y0 ey0)
 rw[Z2m]
 refine wpS_bind (wpS_lift (wpAny_rule ⟨rfl,wpS_bind (Z4 ey0 (Z8 (fun q1=>?_) fun q1=>Z8 (fun q2=>?_) fun q2=>wpS_bind (wpS_get ?_)))⟩))
 ·exact wpS_pure (h _ _ .refl (I1.done (.inr (Nat.le_of_eq q1.symm))))
 ·exact wpS_pure (h _ _ .refl (K.last I1 q2))
 refine ZB (t0:=(#[y0],0,1,gallopOf st)) (fun x (t:KA×Nat×Nat×Nat) st'=>LoN kx a b st (x+1) t.1 t.2.1 t.2.2.1 st') (fun _ _=>False) (LoF kx a b st) (fun x t st' hx I=>Z5R c K I.1 I.2 (fun _ _ _ z=>z) fun _ _ _ _ _ z=>z) ⟨.refl,I1,Nat.lt_of_le_of_ne ha q2,Nat.lt_of_le_of_ne hb q1,Nat.le_refl 1⟩ (fun t st' I=>?_) (fun _ _ z=>z.elim) fun r t st' hr=>wpS_pure (h _ _ hr.1 hr.2)
 have z1:=I.2.I.len (Nat.le_of_lt (Nat.lt_of_succ_lt I.2.ha)) (Nat.le_of_lt I.2.hb)
 have z2:=I.2.hn
 have z3:=I.2.ha
 have z4:=I.2.hb
 exact Y9b z1 z2 z3 z4
end
abbrev H5:=Option KA×Nat×Nat×KA×Nat
abbrev H6:=Option KA×Nat×Nat×KA×Nat×Nat
abbrev H7:=Option KA×Nat×Nat×KA×Nat×Nat×Nat
noncomputable def hiD (a b out:KA) (na nb:Nat):KA:=a.extract 0 na++b.extract 0 nb++out.reverse
noncomputable def hiF (a b out:KA) (na nb:Nat):KA:=b.extract 0 nb++a.extract 0 na++out.reverse
noncomputable def hi1 (a b:KA) (mg na nb:Nat) (out:KA) (ac bc:Nat):StateT SortSt Sem (ForInStep H6):=
 elem' b (nb-1)>>=fun y=>elem' a (na-1)>>=fun x=>lt' y x>>=fun w=>match w with
 | some z=>if z=true then elem' a (na-1)>>=fun x=>
   if (na-1==0)=true then pure (.done (some (hiD a b (out.push x) (na-1) nb),na-1,nb,out.push x,ac+1,0))
   else if ac+1≥mg then pure (.done (none,na-1,nb,out.push x,ac+1,0)) else pure (.yield (none,na-1,nb,out.push x,ac+1,0))
  else elem' b (nb-1)>>=fun y=>
   if (nb-1==1)=true then pure (.done (some (hiF a b (out.push y) na (nb-1)),na,nb-1,out.push y,0,bc+1))
   else if bc+1≥mg then pure (.done (none,na,nb-1,out.push y,0,bc+1)) else pure (.yield (none,na,nb-1,out.push y,0,bc+1))
 | _=>pure (.done (some (hiD a b out na nb),na,nb,out,ac,bc))
noncomputable def hi2D (a b:KA) (na nb:Nat) (out:KA) (mg k k1:Nat):StateT SortSt Sem (ForInStep H7):=elem' a (na-1)>>=fun x=>
 if (na-1==0)=true then pure (.done (some (hiD a b (out.push x) (na-1) nb),na-1,nb,out.push x,mg,k,k1))
 else if (decide (k<7)&&decide (k1<7))=true then pure (.done (none,na-1,nb,out.push x,mg,k,k1)) else pure (.yield (none,na-1,nb,out.push x,mg,k,k1))
noncomputable def hi2C (a b:KA) (na nb:Nat) (out:KA) (mg k k0:Nat):StateT SortSt Sem (ForInStep H7):=elem' b (nb-1)>>=fun y=>
 if (nb-1==1)=true then pure (.done (some (hiF a b (out.push y) na (nb-1)),na,nb-1,out.push y,mg,k,k0))
 else elem' a (na-1)>>=fun x=>Zq true x b 0 (nb-1) (nb-1-1)>>=fun w=>match w with
  | some j=>if nb-1-j>0 then(if (j==1)=true then pure (.done (some (hiF a b (out.push y++(b.extract j (nb-1)).reverse) na j),na,j,out.push y++(b.extract j (nb-1)).reverse,mg,k,nb-1-j))
    else if (j==0)=true then pure (.done (some (hiD a b (out.push y++(b.extract j (nb-1)).reverse) na j),na,j,out.push y++(b.extract j (nb-1)).reverse,mg,k,nb-1-j))
    else hi2D a b na j (out.push y++(b.extract j (nb-1)).reverse) mg k (nb-1-j))
   else hi2D a b na (nb-1) (out.push y) mg k (nb-1-j)
  | _=>pure (.done (some (hiD a b (out.push y) na (nb-1)),na,nb-1,out.push y,mg,k,k0))
noncomputable def hi2 (a b:KA) (na nb:Nat) (out:KA) (ac bc mg:Nat):StateT SortSt Sem (ForInStep H7):=modify (fun s=>ZZ s mg)>>=fun _=>elem' b (nb-1)>>=fun y=>Zq false y a 0 na (na-1)>>=fun w=>match w with
 | some j=>if na-j>0 then(if (j==0)=true then pure (.done (some (hiD a b (out++(a.extract j na).reverse) j nb),j,nb,out++(a.extract j na).reverse,mg,na-j,bc))
   else hi2C a b j nb (out++(a.extract j na).reverse) mg (na-j) bc)
  else hi2C a b na nb out mg (na-j) bc
 | _=>pure (.done (some (hiD a b out na nb),na,nb,out,mg,ac,bc))
noncomputable def hi3 (a b:KA) (na nb:Nat) (out:KA) (mg:Nat):StateT SortSt Sem (ForInStep H5):=
 forIn [0:a.size+b.size] ((none,na,nb,out,0,0):H6) (fun _ r=>hi1 a b mg r.2.1 r.2.2.1 r.2.2.2.1 r.2.2.2.2.1 r.2.2.2.2.2)>>=fun s=>match s.1 with
 | some r=>pure (.done (some r,s.2.1,s.2.2.1,s.2.2.2.1,mg))
 | none=>liftM (rule "list.sort.gallop")>>=fun _=>
  forIn [0:a.size+b.size] ((none,s.2.1,s.2.2.1,s.2.2.2.1,mg+1,s.2.2.2.2.1,s.2.2.2.2.2):H7) (fun _ r=>if r.2.2.2.2.1>1 then hi2 a b r.2.1 r.2.2.1 r.2.2.2.1 r.2.2.2.2.2.1 r.2.2.2.2.2.2 (r.2.2.2.2.1-1) else hi2 a b r.2.1 r.2.2.1 r.2.2.2.1 r.2.2.2.2.2.1 r.2.2.2.2.2.2 r.2.2.2.2.1)>>=fun q=>match q.1 with
  | some r=>pure (.done (some r,q.2.1,q.2.2.1,q.2.2.2.1,q.2.2.2.2.1))
  | none=>modify (fun s=>ZZ s (q.2.2.2.2.1+1))>>=fun _=>pure (.yield (none,q.2.1,q.2.2.1,q.2.2.2.1,q.2.2.2.2.1+1))
theorem Z2n(a b:KA):Z1G a b=(liftM (rule "list.sort.merge-hi")>>=fun _=>elem' a (a.size-1)>>=fun y=>
  if (a.size-1==0)=true then pure (hiD a b #[y] (a.size-1) b.size) else if (b.size==1)=true then pure (hiF a b #[y] (a.size-1) b.size)
  else get>>=fun s=>forIn [0:a.size+b.size] ((none,a.size-1,b.size,#[y],gallopOf s):H5) (fun _ r=>hi3 a b r.2.1 r.2.2.1 r.2.2.2.1 r.2.2.2.2)>>=fun q=>match q.1 with
   | some r=>pure r
   | none=>liftM (unsupported "internal:list.sort.merge-bound":Sem (Array Keyed))):=by kernel_rfl
section
variable {prog:Program} {w:World} {A:Around} {E:pS} {s:Shared} {κ:SortKind} {G:Keyed->Prop} {kx:Keyed->Int}
abbrev MH(kx:Keyed->Int) (a b out:Array Keyed) (na nb:Nat):Prop:=MI (fun x=>-kx x) a.toList.reverse b.toList.reverse out.toList (a.toList.take na).reverse (b.toList.take nb).reverse
theorem Fin'.rev{a b r:List Keyed} (h:Fin' (fun x=>-kx x) a.reverse b.reverse r):Fin' kx a b r.reverse:=by
 refine⟨(List.reverse_perm r).trans (h.1.trans ((List.reverse_perm a).append (List.reverse_perm b))),?_⟩
 unfold SrtL
 rw[List.pairwise_reverse]
 exact h.2.imp fun{x y} z=>Int.le_of_neg_le_neg z
theorem SrtL.neg{l:List Keyed} (h:SrtL kx l):SrtL (fun x=>-kx x) l.reverse:=by
 unfold SrtL
 rw[List.pairwise_reverse]
 exact h.imp fun{x y} z=>Int.neg_le_neg z
section
variable {a b out:Array Keyed} {na nb:Nat}
theorem Zn{xs:Array Keyed} {i:Nat} {x:Keyed} (e:xs[i]?=some x):(xs.toList.take (i+1)).reverse=x::(xs.toList.take i).reverse:=by
 have e':xs.toList[i]?=some x:=by simpa using e
 rw[List.take_add_one,e'];simp
theorem MH.pushB{y:Keyed} (I:MH kx a b out na (nb+1)) (ey:b[nb]?=some y) (h:∀x∈a.toList.take na,kx x≤kx y):MH kx a b (out.push y) na nb:=by
 have:=MI.addB I 1 (by
  rw[Zn ey]
  intro u hu v hv
  have:u=y:=by simpa using hu
  subst this
  have:=h v (List.mem_reverse.mp hv)
  exact Y2h this)
 rw[Zn ey]at this
 unfold MH
 rw[Array.toList_push]
 simpa using this
theorem MH.pushA{x:Keyed} (I:MH kx a b out (na+1) nb) (ex:a[na]?=some x) (h:∀y∈b.toList.take nb,kx y≤kx x):MH kx a b (out.push x) na nb:=by
 have:=MI.addA I 1 (by
  rw[Zn ex]
  intro u hu v hv
  have:u=x:=by simpa using hu
  subst this
  have:=h v (List.mem_reverse.mp hv)
  exact Y2h this)
 rw[Zn ex]at this
 unfold MH
 rw[Array.toList_push]
 simpa using this
theorem Z2L(l:List Keyed) (n k:Nat) (h:n≤l.length) (hk:k≤n):((l.take n).reverse).take (n-k)=((l.drop k).take (n-k)).reverse∧((l.take n).reverse).drop (n-k)=(l.take k).reverse:=by
 have hl:(l.take n).length=n:=by simp;exact Y2i h
 constructor
 ·rw[List.take_reverse,hl,show n-(n-k)=k by exact Y2j hk,List.drop_take]
 ·rw[List.drop_reverse,hl,show n-(n-k)=k by exact Y2j hk,List.take_take,Nat.min_eq_left hk]
theorem MH.extA(k:Nat) (I:MH kx a b out na nb) (ha:na≤a.size) (hk:k≤na) (h:∀x∈(a.toList.take na).drop k,∀y∈b.toList.take nb,kx y≤kx x):MH kx a b (out++(a.extract k na).reverse) k nb:=by
 obtain⟨e1,e2⟩:=Z2L a.toList na k (by simpa using ha) hk
 have:=MI.addA I (na-k) (by
  rw[e1,←List.drop_take]
  intro u hu v hv
  have:=h u (List.mem_reverse.mp hu) v (List.mem_reverse.mp hv)
  exact Y2h this)
 rw[e1,e2]at this
 unfold MH
 rw[Array.toList_append,Array.toList_reverse,Zl]
 exact this
theorem MH.extB(k:Nat) (I:MH kx a b out na nb) (hb:nb≤b.size) (hk:k≤nb) (h:∀y∈(b.toList.take nb).drop k,∀x∈a.toList.take na,kx x≤kx y):MH kx a b (out++(b.extract k nb).reverse) na k:=by
 obtain⟨e1,e2⟩:=Z2L b.toList nb k (by simpa using hb) hk
 have:=MI.addB I (nb-k) (by
  rw[e1,←List.drop_take]
  intro u hu v hv
  have:=h u (List.mem_reverse.mp hu) v (List.mem_reverse.mp hv)
  exact Y2h this)
 rw[e1,e2]at this
 unfold MH
 rw[Array.toList_append,Array.toList_reverse,Zl]
 exact this
theorem MH.lastA{x:Keyed} (I:MH kx a b out (na+1) nb) (ex:a[na]?=some x):∀z∈a.toList.take (na+1),kx z≤kx x:=by
 intro z hz
 have:=I.sa
 have hz:=List.mem_reverse.mpr hz
 rw[Zn ex]at this hz
 rcases List.mem_cons.mp hz with rfl|hz
 ·exact Int.le_refl _
 ·exact Int.le_of_neg_le_neg ((List.pairwise_cons.mp this).1 z hz)
theorem MH.lastB{y:Keyed} (I:MH kx a b out na (nb+1)) (ey:b[nb]?=some y):∀z∈b.toList.take (nb+1),kx z≤kx y:=by
 intro z hz
 have:=I.sb
 have hz:=List.mem_reverse.mpr hz
 rw[Zn ey]at this hz
 rcases List.mem_cons.mp hz with rfl|hz
 ·exact Int.le_refl _
 ·exact Int.le_of_neg_le_neg ((List.pairwise_cons.mp this).1 z hz)
theorem MH.len(I:MH kx a b out na nb) (ha:na≤a.size) (hb:nb≤b.size):out.size+na+nb=a.size+b.size:=by
 have:=I.perm.length_eq
 simp at this
 exact Y2k ha hb this
theorem ext0(xs:Array Keyed) (n:Nat):(xs.extract 0 n).toList=xs.toList.take n:=by rw[Zl];simp
theorem MH.first(I:MH kx a b out na nb) (h:∀x∈a.toList.take na,∀y∈b.toList.take nb,kx y≤kx x):Fin' kx a.toList b.toList (b.extract 0 nb++a.extract 0 na++out.reverse).toList:=by
 have:=(MI.fin I fun x hx y hy=>by have:=h x (List.mem_reverse.mp hx) y (List.mem_reverse.mp hy);exact Y2h this).rev
 rw[Array.toList_append,Array.toList_append,ext0,ext0,Array.toList_reverse]
 simpa using this
theorem MH.done(I:MH kx a b out na nb) (h:na=0∨nb=0):Fin' kx a.toList b.toList (a.extract 0 na++b.extract 0 nb++out.reverse).toList:=by
 have:=(MI.finB I (by rcases h with rfl|rfl<;>simp)).rev
 rw[Array.toList_append,Array.toList_append,ext0,ext0,Array.toList_reverse]
 simpa using this
end
section
variable {a b out:Array Keyed} {na nb:Nat}
theorem MH.pushB'{y:Keyed} (I:MH kx a b out na nb) (h1:1≤nb) (ey:b[nb-1]?=some y) (h:∀x∈a.toList.take na,kx x≤kx y):MH kx a b (out.push y) na (nb-1):=by
 cases nb with
 | zero=>cases h1
 | succ m=>exact MH.pushB I ey h
theorem MH.pushA'{x:Keyed} (I:MH kx a b out na nb) (h1:1≤na) (ex:a[na-1]?=some x) (h:∀y∈b.toList.take nb,kx y≤kx x):MH kx a b (out.push x) (na-1) nb:=by
 cases na with
 | zero=>cases h1
 | succ m=>exact MH.pushA I ex h
theorem MH.lastA'{x:Keyed} (I:MH kx a b out na nb) (h1:1≤na) (ex:a[na-1]?=some x):∀z∈a.toList.take na,kx z≤kx x:=by
 cases na with
 | zero=>cases h1
 | succ m=>exact MH.lastA I ex
theorem MH.lastB'{y:Keyed} (I:MH kx a b out na nb) (h1:1≤nb) (ey:b[nb-1]?=some y):∀z∈b.toList.take nb,kx z≤kx y:=by
 cases nb with
 | zero=>cases h1
 | succ m=>exact MH.lastB I ey
end
structure Alh(kx:Keyed->Int) (a b:Array Keyed) (n0:Nat) (out:Array Keyed) (na nb:Nat):Prop where
 I:MH kx a b out na nb
 ha:1≤na
 hb:2≤nb
 ha':na≤a.size
 hb':nb≤b.size
 hn:n0≤out.size
structure HiC(κ:SortKind) (G:Keyed->Prop) (kx:Keyed->Int) (a b:KA) (st:SortSt):Prop where
 hk:kindOf st=κ
 Ga:∀x∈a.toList,G x
 Gb:∀x∈b.toList,G x
 first:∀{out:KA} {na nb:Nat},MH kx a b out na nb->nb=1->Fin' kx a.toList b.toList (hiF a b out na nb).toList
noncomputable def HiN (kx:Keyed->Int) (a b:KA) (st:SortSt) (n:Nat) (na nb:Nat) (out:KA) (st':SortSt):Prop:=Sg st st'∧Alh kx a b n out na nb
section
variable {a b out:KA} {st0 st:SortSt} {na nb mg n:Nat}
theorem Z3l{l:List Keyed} (z:SrtL (fun x=>-kx x) l.reverse):SrtL kx l:=(List.pairwise_reverse.mp z).imp fun{x y} z=>Int.le_of_neg_le_neg z
theorem Alh.mono{m:Nat} (L:Alh kx a b n out na nb) (h:m≤n):Alh kx a b m out na nb:=⟨L.I,L.ha,L.hb,L.ha',L.hb',Nat.le_trans h L.hn⟩
theorem Z4m{k:Nat} (h:2≤k) (q:¬k-1=1):2≤k-1:=Nat.lt_of_le_of_ne (Nat.le_sub_of_add_le (show 1+1≤k from h)) (Ne.symm q)
theorem Z5S{ac bc:Nat} {Q:ForInStep H6->SortSt->Prop} (c:Ask (model prog w) A E s κ G kx) (K:HiC κ G kx a b st0) (S:Sg st0 st) (L:Alh kx a b n out na nb) (hF:∀r t st',LoF kx a b st0 r st'->Q (.done (some r,t)) st') (hN:∀na nb out u st',HiN kx a b st0 (n+1) na nb out st'->Q (.done (none,na,nb,out,u)) st'∧Q (.yield (none,na,nb,out,u)) st'):wpS (model prog w) A E s (hi1 a b mg na nb out ac bc) Q st:=by
 revert prog w A E s κ G kx a b out st0 st na nb mg n ac bc Q;k_extra "e15";intro prog w A E s κ G kx a b out st0 st na nb;k_extra "e5";intro mg n ac bc Q c K S L hF hN
 have n1:na-1<na:=Nat.sub_lt L.ha Nat.one_pos
 have b1:1≤nb:=Nat.le_of_lt L.hb
 have n2:nb-1<nb:=Nat.sub_lt b1 Nat.one_pos
 obtain⟨xa,ea,ma⟩:=Z9 (Nat.lt_of_lt_of_le n1 L.ha')
 obtain⟨xb,eb,mb⟩:=Z9 (Nat.lt_of_lt_of_le n2 L.hb')
 refine wpS_bind (Z4 eb (wpS_bind (Z4 ea (wpS_bind (c.ask xb xa _ _ (K.Gb _ mb) (K.Ga _ ma) (S.kind K.hk) (Z27 (fun hw=>?_) fun hw=>?_))))))
 ·have I2:=L.I.pushA' L.ha ea fun u hu=>Int.le_trans (L.I.lastB' b1 eb u hu) (Int.le_of_lt hw)
  refine wpS_bind (Z4 ea (Z8 (fun q=>wpS_pure (hF _ _ _ ⟨S,I2.done (.inl q)⟩)) fun q=>?_))
  have z:=fun u=>hN _ _ _ u _ ⟨S,I2,Nat.pos_of_ne_zero q,L.hb,Nat.le_trans (Nat.le_of_lt n1) L.ha',L.hb',by rw[Array.size_push];exact Nat.succ_le_succ L.hn⟩
  exact Z3 (fun _=>wpS_pure (z _).1) fun _=>wpS_pure (z _).2
 ·have I2:=L.I.pushB' b1 eb fun u hu=>Int.le_trans (L.I.lastA' L.ha ea u hu) (Int.not_lt.mp hw)
  refine wpS_bind (Z4 eb (Z8 (fun q=>wpS_pure (hF _ _ _ ⟨S,K.first I2 q⟩)) fun q=>?_))
  have z:=fun u=>hN _ _ _ u _ ⟨S,I2,L.ha,Z4m L.hb q,L.ha',Nat.le_trans (Nat.le_of_lt n2) L.hb',by rw[Array.size_push];exact Nat.succ_le_succ L.hn⟩
  exact Z3 (fun _=>wpS_pure (z _).1) fun _=>wpS_pure (z _).2
theorem Z3m{xa:Keyed} {k k1:Nat} {Q:ForInStep H7->SortSt->Prop} (K:HiC κ G kx a b st0) (S:Sg st0 st) (m1:1≤na) (m1':na≤a.size) (n1:2≤nb) (n1':nb≤b.size) (m2:n≤out.size) (I:MH kx a b out na nb) (ea:a[na-1]?=some xa) (n4:∀u∈b.toList.take nb,kx u≤kx xa)
  (hF:∀r t st',LoF kx a b st0 r st'->Q (.done (some r,t)) st') (hN:∀na nb out u st',HiN kx a b st0 n na nb out st'->Q (.done (none,na,nb,out,u)) st'∧Q (.yield (none,na,nb,out,u)) st'):wpS (model prog w) A E s (hi2D a b na nb out mg k k1) Q st:=by
 have I5:=I.pushA' m1 ea n4
 refine wpS_bind (Z4 ea (Z8 (fun q=>wpS_pure (hF _ _ _ ⟨S,I5.done (.inl q)⟩)) fun q=>?_))
 have z:=fun u=>hN _ _ _ u _ ⟨S,I5,Nat.pos_of_ne_zero q,n1,Nat.le_trans (Nat.sub_le _ _) m1',n1',by rw[Array.size_push];exact Nat.le_succ_of_le m2⟩
 exact Z3 (fun _=>wpS_pure (z _).1) fun _=>wpS_pure (z _).2
theorem Z3n{xb:Keyed} {k k0:Nat} {Q:ForInStep H7->SortSt->Prop} (c:Ask (model prog w) A E s κ G kx) (K:HiC κ G kx a b st0) (S:Sg st0 st) (m1:1≤na) (m1':na≤a.size) (n1:2≤nb) (n1':nb≤b.size) (m2:n≤out.size) (I:MH kx a b out na nb) (eb:b[nb-1]?=some xb) (m4:∀u∈a.toList.take na,kx u≤kx xb) (hF:∀r t st',LoF kx a b st0 r st'->Q (.done (some r,t)) st') (hN:∀na nb out u st',HiN kx a b st0 n na nb out st'->Q (.done (none,na,nb,out,u)) st'∧Q (.yield (none,na,nb,out,u)) st'):wpS (model prog w) A E s (hi2C a b na nb out mg k k0) Q st:=by
 revert prog w A E s κ G kx a b out st0 st na nb mg n xb k k0 Q;k_extra "e15";intro prog w A E s κ G kx a b out st0 st na nb;k_extra "e6";intro mg n xb k k0 Q c K S m1 m1' n1 n1' m2 I eb m4 hF hN
 have I3:=I.pushB' (Nat.le_of_lt n1) eb m4
 refine wpS_bind (Z4 eb (Z8 (fun q=>wpS_pure (hF _ _ _ ⟨S,K.first I3 q⟩)) fun q=>?_))
 have q5:2≤nb-1:=Z4m n1 q
 have l2:=Nat.le_trans (Nat.sub_le nb 1) n1'
 obtain⟨xa,ea,ma⟩:=Z9 (Nat.lt_of_lt_of_le (Nat.sub_lt m1 Nat.one_pos) m1')
 have m5:n≤(out.push xb).size:=by rw[Array.size_push];exact Nat.le_succ_of_le m2
 refine wpS_bind (Z4 ea (wpS_bind (Z11 (base:=0) (n:=nb-1) (hint:=nb-1-1) c (S.kind K.hk) (K.Ga _ ma) K.Gb ?_ ?_ (Nat.sub_lt (Nat.le_of_lt q5) Nat.one_pos) fun j j1 j2 j3=>Z3 (fun hk1=>Z8 (fun q=>?_) fun q=>Z8 (fun q'=>?_) fun q'=>?_) fun hk1=>?_)))
 ·rw[List.drop_zero];exact Z3l I3.sb
 ·rw[Nat.zero_add];exact l2
 all_goals rw[List.drop_zero]at j2 j3
 ·exact wpS_pure (hF _ _ _ ⟨S,K.first (I3.extB j l2 j1 fun u hu v hv=>Int.le_trans (I3.lastA' m1 ea v hv) (j3 u hu).1) q⟩)
 ·exact wpS_pure (hF _ _ _ ⟨S,(I3.extB j l2 j1 fun u hu v hv=>Int.le_trans (I3.lastA' m1 ea v hv) (j3 u hu).1).done (.inr q')⟩)
 ·exact Z3m K S m1 m1' (by exact Y2l q q') (Nat.le_trans j1 l2) (by rw[Array.size_append];exact Nat.le_add_right_of_le m5) (I3.extB j l2 j1 fun u hu v hv=>Int.le_trans (I3.lastA' m1 ea v hv) (j3 u hu).1) ea (fun u hu=>(j2 u hu).1) hF hN
 ·obtain rfl:j=nb - 1:=Nat.le_antisymm j1 (Nat.le_of_sub_eq_zero (Nat.eq_zero_of_not_pos hk1))
  exact Z3m K S m1 m1' q5 l2 m5 I3 ea (fun u hu=>(j2 u hu).1) hF hN
theorem Z4n{ac bc:Nat} {Q:ForInStep H7->SortSt->Prop} (c:Ask (model prog w) A E s κ G kx) (K:HiC κ G kx a b st0) (S:Sg st0 st) (L:Alh kx a b n out na nb) (hF:∀r t st',LoF kx a b st0 r st'->Q (.done (some r,t)) st') (hN:∀na nb out u st',HiN kx a b st0 n na nb out st'->Q (.done (none,na,nb,out,u)) st'∧Q (.yield (none,na,nb,out,u)) st'):wpS (model prog w) A E s (hi2 a b na nb out ac bc mg) Q st:=by
 revert prog w A E s κ G kx a b out st0 st na nb mg n ac bc Q;k_extra "e15";intro prog w A E s κ G kx a b out st0 st na nb;k_extra "e5";intro mg n ac bc Q c K S L hF hN
 have b1:1≤nb:=Nat.le_of_lt L.hb
 obtain⟨xb,eb,mb⟩:=Z9 (Nat.lt_of_lt_of_le (Nat.sub_lt b1 Nat.one_pos) L.hb')
 refine wpS_bind (wpS_modify (wpS_bind (Z4 eb (wpS_bind (Z11 (base:=0) (n:=na) (hint:=na-1) c (S.kind K.hk) (K.Gb _ mb) K.Ga ?_ ?_ (Nat.sub_lt L.ha Nat.one_pos) fun k k1 k2 k3=>Z3 (fun hk1=>Z8 (fun q=>?_) fun q=>?_) fun hk1=>?_)))))
 ·rw[List.drop_zero];exact Z3l L.I.sa
 ·rw[Nat.zero_add];exact L.ha'
 all_goals rw[List.drop_zero]at k2 k3
 ·exact wpS_pure (hF _ _ _ ⟨S.set _,(L.I.extA k L.ha' k1 fun u hu v hv=>Int.le_trans (L.I.lastB' b1 eb v hv) (k3 u hu).1).done (.inl q)⟩)
 ·exact Z3n c K (S.set _) (Nat.pos_of_ne_zero q) (Nat.le_trans k1 L.ha') L.hb L.hb' (by rw[Array.size_append];exact Nat.le_add_right_of_le L.hn) (L.I.extA k L.ha' k1 fun u hu v hv=>Int.le_trans (L.I.lastB' b1 eb v hv) (k3 u hu).1) eb (fun u hu=>(k2 u hu).1) hF hN
 ·obtain rfl:k=na:=Nat.le_antisymm k1 (Nat.le_of_sub_eq_zero (Nat.eq_zero_of_not_pos hk1))
  exact Z3n c K (S.set _) L.ha L.ha' L.hb L.hb' L.hn L.I eb (fun u hu=>(k2 u hu).1) hF hN
theorem Z5T(c:Ask (model prog w) A E s κ G kx) {Q:ForInStep H5->SortSt->Prop} (K:HiC κ G kx a b st0) (S:Sg st0 st) (L:Alh kx a b n out na nb)
  (hF:∀r t st',LoF kx a b st0 r st'->Q (.done (some r,t)) st') (hN:∀na nb out u st',HiN kx a b st0 (n+1) na nb out st'->Q (.yield (none,na,nb,out,u)) st'):wpS (model prog w) A E s (hi3 a b na nb out mg) Q st:=by
 refine ZB (t0:=(na,nb,out,0,0)) (fun z (t:Nat×Nat×KA×Nat×Nat) st'=>HiN kx a b st0 (n+min z 1) t.1 t.2.1 t.2.2.1 st') (fun t st'=>HiN kx a b st0 (n+1) t.1 t.2.1 t.2.2.1 st') (LoF kx a b st0) (fun z t st' hz I=>Z5S c K I.1 (I.2.mono (Nat.le_add_right n _)) (fun _ _ _ z=>z) fun _ _ _ _ _ I=>⟨I,I.1,I.2.mono (Nat.add_le_add_left (Nat.min_le_right _ _) _)⟩) ⟨S,L⟩ (fun t st' I=>⟨I.1,I.2.mono (Nat.le_of_eq ?_)⟩) (fun t st' I=>wpS_bind (wpS_lift (wpAny_rule ⟨rfl,?_⟩))) fun r t st' z=>wpS_pure (hF _ _ _ z)
 ·rw[Nat.min_eq_right]
  exact Nat.le_trans (Nat.le_trans L.ha L.ha') (Nat.le_add_right _ _)
 ·refine ZB (t0:=(t.1,t.2.1,t.2.2.1,mg+1,t.2.2.2.1,t.2.2.2.2)) (fun _ (t:Nat×Nat×KA×Nat×Nat×Nat) st'=>HiN kx a b st0 (n+1) t.1 t.2.1 t.2.2.1 st') (fun t st'=>HiN kx a b st0 (n+1) t.1 t.2.1 t.2.2.1 st') (LoF kx a b st0) (fun z t st' hz I=>?_) I (fun t st' I=>I) (fun t st' I=>wpS_bind (wpS_modify (wpS_pure (hN _ _ _ _ _ ⟨I.1.set _,I.2⟩)))) fun r t2 st' hr=>wpS_pure (hF _ _ _ hr)
  exact Z3 (fun _=>Z4n c K I.1 I.2 (fun _ _ _ z=>z) fun _ _ _ _ _ I=>⟨I,I⟩) fun _=>Z4n c K I.1 I.2 (fun _ _ _ z=>z) fun _ _ _ _ _ I=>⟨I,I⟩
end
theorem Z3L{a b:Array Keyed} {st:SortSt} {Q:Array Keyed->SortSt->Prop} (c:Ask (model prog w) A E s κ G kx) (hk:kindOf st=κ) (Ga:∀x∈a.toList,G x) (Gb:∀x∈b.toList,G x) (sa:SrtL kx a.toList) (sb:SrtL kx b.toList) (ha:1≤a.size) (hb:1≤b.size) (h0:∀y,b[0]?=some y->∀x∈a.toList,kx y≤kx x) (h1:∀x,a[a.size-1]?=some x->∀y∈b.toList,kx y≤kx x) (h:∀r st',Sg st st'->Fin' kx a.toList b.toList r.toList->Q r st'):wpS (model prog w) A E s (Z1G a b) Q st:=by
 revert prog w A E s κ G kx a b st Q;k_extra "e12";intro prog w A E s κ G kx a b st Q c hk Ga Gb sa sb ha hb h0 h1 h
 have K:HiC κ G kx a b st:=⟨hk,Ga,Gb,fun{out na nb} I e=>by
  subst e
  refine I.first fun x hx y hy=>?_
  obtain⟨z,ez,_⟩:=Z9 (xs:=b) (i:=0) hb
  have:b.toList.take 1=[z]:=by
   have:=Zn ez
   simpa using this
  rw[this]at hy
  rw[List.mem_singleton.mp hy]
  exact h0 z ez x (List.mem_of_mem_take hx)⟩
 obtain⟨x0,ex0,mx0⟩:=Z9 (xs:=a) (i:=a.size - 1) (Nat.sub_lt ha Nat.one_pos)
 have I0:MH kx a b #[] (a.size-1+1) b.size:=by
  rw[Nat.sub_add_cancel ha]
  refine⟨by rw[List.take_of_length_le (by simp),List.take_of_length_le (by simp)];simp,List.Pairwise.nil,by simp,?_,?_⟩
  ·rw[List.take_of_length_le (by simp)];exact sa.neg
  ·rw[List.take_of_length_le (by simp)];exact sb.neg
 have I1:MH kx a b #[x0] (a.size-1) b.size:=I0.pushA ex0 (fun y hy=>h1 x0 ex0 y (List.mem_of_mem_take hy))
 rw[Z2n]
 refine wpS_bind (wpS_lift (wpAny_rule ⟨rfl,wpS_bind (Z4 ex0 (Z8 (fun q1=>?_) fun q1=>Z8 (fun q2=>?_) fun q2=>wpS_bind (wpS_get ?_)))⟩))
 ·exact wpS_pure (h _ _ .refl (I1.done (.inl q1)))
 ·exact wpS_pure (h _ _ .refl (K.first I1 q2))
 refine ZB (t0:=(a.size-1,b.size,#[x0],gallopOf st)) (fun x (t:Nat×Nat×KA×Nat) st'=>HiN kx a b st (x+1) t.1 t.2.1 t.2.2.1 st') (fun _ _=>False) (LoF kx a b st) (fun x t st' hx I=>Z5T c K I.1 I.2 (fun _ _ _ z=>z) fun _ _ _ _ _ z=>z) ⟨.refl,I1,Nat.pos_of_ne_zero q1,Nat.lt_of_le_of_ne hb (Ne.symm q2),Nat.sub_le _ _,Nat.le_refl _,Nat.le_refl 1⟩ (fun t st' I=>?_) (fun _ _ z=>z.elim) fun r t st' hr=>wpS_pure (h _ _ hr.1 hr.2)
 have z1:=I.2.I.len I.2.ha' I.2.hb'
 have z2:=I.2.hn
 have z3:=I.2.ha
 have z4:=I.2.hb
 exact Y9c z1 z2
end
section
variable {prog:Program} {w:World} {A:Around} {E:pS} {s:Shared} {κ:SortKind} {G:Keyed->Prop} {kx:Keyed->Int}
theorem Z5v{M:Model} {Q:PUnit->SortSt->Prop} {st st2:SortSt} (h:Q ⟨⟩ st2):wpS M A E s (set st2:StateT SortSt Sem PUnit) Q st:=by
 unfold wpS;rw[StateT.run_set];exact wpAny_pure ⟨rfl,h⟩
noncomputable def ma4 (sa:Nat) (m:KA):StateT SortSt Sem Bool:=modify (fun s=>Z5t s (m.toList.zipIdx.foldl (fun a x=>a.setIfInBounds (sa+x.2) x.1) (arrOf s)))>>=fun _=>get>>=fun s=>pure (failedOf s).isNone
noncomputable def ma3 (arr:KA) (sa na sb nb:Nat):StateT SortSt Sem Bool:=if na≤nb then Z1F (arr.extract sa sb) (arr.extract sb (sb+nb))>>=ma4 sa else Z1G (arr.extract sa sb) (arr.extract sb (sb+nb))>>=ma4 sa
noncomputable def ma2 (arr:KA) (sa na sb nb k:Nat):StateT SortSt Sem Bool:=if (na-k==0)=true then pure true else elem' arr (sa+k+(na-k)-1)>>=fun x=>Zq true x arr sb nb (nb-1)>>=fun w=>match w with
 | some m=>if (m==0)=true then pure true else ma3 arr (sa+k) (na-k) sb m
 | _=>pure false
noncomputable def ma1 (s:SortSt) (i sa na pw sb nb:Nat):StateT SortSt Sem Bool:=set (setPending s (((pendingOf s).setIfInBounds i (sa,na+nb,pw)).eraseIdxIfInBounds (i+1)))>>=fun _=>elem' (arrOf s) sb>>=fun x=>Zq false x (arrOf s) sa na 0>>=fun w=>match w with
 | some k=>ma2 (arrOf s) sa na sb nb k
 | _=>pure false
theorem Z2o(i:Nat):mergeAt' i=(get>>=fun s=>match (pendingOf s)[i]?,(pendingOf s)[i+1]? with
 | some (sa,na,pw),some (sb,nb,_)=>ma1 s i sa na pw sb nb
 | _,_=>liftM (unsupported "internal:list.sort.pending":Sem Bool)):=by kernel_rfl
theorem Z3o:∀(m:List Keyed) (n p:Nat) (xs:Array Keyed),p+n+m.length≤xs.size->((m.zipIdx n).foldl (fun a q=>a.setIfInBounds (p+q.2) q.1) xs).toList=xs.toList.take (p+n)++m++xs.toList.drop (p+n+m.length)
 | [],n,p,xs,_=>by simp
 | q::m,n,p,xs,h=>by
  simp only[List.length_cons]at h
  rw[List.zipIdx_cons,List.foldl_cons,Z3o m (n+1) p _ (by simp;exact Y2m h)]
  have hl:p+n<xs.toList.length:=by simp;exact Y2n h
  rw[Array.toList_setIfInBounds]
  have e1:(xs.toList.set (p+n) q).take (p+(n+1))=xs.toList.take (p+n)++[q]:=by
   rw[show p+(n+1)=p+n+1 by exact Y2o,List.take_add_one,List.getElem?_set_self hl,List.take_set_of_le (Nat.le_refl _)]
   rfl
  have e2:(xs.toList.set (p+n) q).drop (p+(n+1)+m.length)=xs.toList.drop (p+n+(q::m).length):=by
   rw[List.drop_set_of_lt (by exact Y2p)]
   congr 1
   simp only[List.length_cons];exact Y2q
  rw[e1,e2]
  simp
theorem Z1p{l m:List Keyed} (h1:SrtL kx l) (h2:SrtL kx m) (h:∀x∈l,∀y∈m,kx x≤kx y):SrtL kx (l++m):=List.pairwise_append.mpr ⟨h1,h2,h⟩
theorem Z3M{st:SortSt} {i sa na pw nb q:Nat} {pre L R post:List Keyed} {Q:Bool->SortSt->Prop} (c:Ask (model prog w) A E s κ G kx) (hk:kindOf st=κ) (hf:failedOf st=none) (e1:(pendingOf st)[i]?=some (sa,na,pw)) (e2:(pendingOf st)[i+1]?=some (sa+na,nb,q)) (ea:(arrOf st).toList=pre++(L++(R++post))) (l1:pre.length=sa) (l2:L.length=na) (l3:R.length=nb) (ha:1≤na) (hb:1≤nb) (sL:SrtL kx L) (sR:SrtL kx R) (hG:∀x∈(arrOf st).toList,G x) (h:∀st' N,Fin' kx L R N->kindOf st'=κ->failedOf st'=none->(arrOf st').toList=pre++(N++post)->pendingOf st'=((pendingOf st).setIfInBounds i (sa,na+nb,pw)).eraseIdxIfInBounds (i+1)->Q true st'):wpS (model prog w) A E s (mergeAt' i) Q st:=by
 revert prog w A E s κ G kx st i sa na pw nb q pre L R post Q;k_extra "e15";intro prog w A E s κ G kx st i sa na pw nb q;k_extra "e5";intro pre L R post Q c hk hf e1 e2 ea l1 l2 l3 ha hb sL sR hG h
 have hsz:(arrOf st).size=sa+(na+(nb+post.length)):=by
  have:=congrArg List.length ea
  simpa [l1,l2,l3] using this
 have at_:∀j,(arrOf st)[j]?=(pre++(L++(R++post)))[j]?:=fun j=>by rw[←ea,Array.getElem?_toList]
 have dL:(arrOf st).toList.drop sa=L++(R++post):=by rw[ea,List.drop_append_of_le_length (by exact Y2r l1),List.drop_of_length_le (by exact Y2s l1)];rfl
 have dR:(arrOf st).toList.drop (sa+na)=R++post:=by rw[←List.drop_drop,dL,List.drop_append_of_le_length (by exact Y2r l2),List.drop_of_length_le (by exact Y2s l2)];rfl
 have tL:∀k,k≤na->((arrOf st).toList.drop sa).take k=L.take k:=fun k hk=>by rw[dL,List.take_append_of_le_length (by exact Y2t l2 hk)]
 have tR:∀k,k≤nb->((arrOf st).toList.drop (sa+na)).take k=R.take k:=fun k hk=>by rw[dR,List.take_append_of_le_length (by exact Y2t l3 hk)]
 obtain⟨r0,er0⟩:∃r0,R[0]?=some r0:=⟨R[0],by simp⟩
 obtain⟨ll,el⟩:∃ll,L[na - 1]?=some ll:=⟨L[na - 1],by simp⟩
 have a0:(arrOf st)[sa+na]?=some r0:=by
  rw[at_,List.getElem?_append_right (by exact Y2u l1),List.getElem?_append_right (by exact Y2v l1 l2),List.getElem?_append_left (by exact Y2w l1 l2 l3 hb),←er0]
  congr 1;exact Y2x l1 l2
 have aL:(arrOf st)[sa+na-1]?=some ll:=by
  rw[at_,List.getElem?_append_right (by exact Y2y l1 ha),List.getElem?_append_left (by exact Y2z l1 l2 ha),←el]
  congr 1;exact Y2A l1
 have mem:∀{j x},(arrOf st)[j]?=some x->G x:=fun{j x} e=>hG x (by simpa using List.mem_of_getElem? (l:=(arrOf st).toList) (by simpa using e))
 have hr0:∀y∈R,kx r0≤kx y:=fun y hy=>by
  obtain⟨j,hj⟩:=List.mem_iff_getElem?.mp hy
  exact Z26 sR (Nat.zero_le j) er0 hj
 have hll:∀x∈L,kx x≤kx ll:=fun x hx=>by
  obtain⟨j,hj⟩:=List.mem_iff_getElem?.mp hx
  have:=(List.getElem?_eq_some_iff.mp hj).1
  exact Z26 sL (show j≤na-1 by exact Y2B l2 this) hj el
 rw[Z2o]
 refine wpS_bind (wpS_get ?_)
 rw[e1,e2]
 refine wpS_bind (Z5v (wpS_bind (Z4 a0 ?_)))
 refine wpS_bind (Z11 c hk (mem a0) hG (by rw[tL na (Nat.le_refl _)];exact sL.sublist (List.take_sublist _ _)) (by exact Y2C hsz) (by exact Y2D ha) fun k k1 k2 k3=>?_)
 rw[tL k k1]at k2
 rw[tL na (Nat.le_refl _),List.take_of_length_le (by exact Y2s l2)]at k3
 refine Z8 (fun q1=>?_) fun q1=>?_
 ·have hkn:k=na:=by exact Y2E k1 q1
  subst hkn
  rw[List.take_of_length_le (by exact Y2s l2)]at k2
  exact wpS_pure (h _ (L++R) ⟨.refl _,Z1p sL sR fun x hx y hy=>by have zz3:=(k2 x hx).1;have zz4:=hr0 y hy;exact Y33 zz3 zz4⟩ hk hf (by rw[ea];simp) rfl)
 refine wpS_bind (Z4 (x:=ll) (by rw[show sa+k+(na-k)-1=sa+na-1 by rw[Nat.add_assoc,Nat.add_sub_cancel' k1]];exact aL) ?_)
 refine wpS_bind (Z11 c hk (mem aL) hG (by rw[tR nb (Nat.le_refl _)];exact sR.sublist (List.take_sublist _ _)) (by exact Y2F hsz) (by exact Y2G hb) fun m m1 j2 j3=>?_)
 rw[tR m m1]at j2
 rw[tR nb (Nat.le_refl _),List.take_of_length_le (by exact Y2s l3)]at j3
 refine Z8 (fun q2=>?_) fun q2=>?_
 ·subst q2
  rw[List.drop_zero]at j3
  exact wpS_pure (h _ (L++R) ⟨.refl _,Z1p sL sR fun x hx y hy=>by have zz5:=(j3 y hy).1;have zz6:=hll x hx;exact Y32 zz5 zz6⟩ hk hf (by rw[ea];simp) rfl)
 have ex:((arrOf st).extract (sa+k) (sa+na)).toList=L.drop k:=by
  rw[Zl,←List.drop_drop,dL,List.drop_append_of_le_length (by exact Y2H l2 q1),List.take_append_of_le_length (by simp;exact Y2I l2),List.take_of_length_le (by simp;exact Y2J l2)]
 have ey:((arrOf st).extract (sa+na) (sa+na+m)).toList=R.take m:=by
  rw[Zl,show sa+na+m-(sa+na)=m by exact Y2K,tR m m1]
 have sx:((arrOf st).extract (sa+k) (sa+na)).size=na - k:=by rw[←Array.length_toList,ex];simp;exact Y2L l2
 have sy:((arrOf st).extract (sa+na) (sa+na+m)).size=m:=by rw[←Array.length_toList,ey];simp;exact Y2M l3 m1
 have gx:∀x∈((arrOf st).extract (sa+k) (sa+na)).toList,G x:=fun x hx=>hG x (by rw[ex]at hx;rw[ea];simp[List.mem_of_mem_drop hx])
 have gy:∀x∈((arrOf st).extract (sa+na) (sa+na+m)).toList,G x:=fun x hx=>hG x (by rw[ey]at hx;rw[ea];simp[List.mem_of_mem_take hx])
 have s1:SrtL kx ((arrOf st).extract (sa+k) (sa+na)).toList:=by rw[ex];exact sL.sublist (List.drop_sublist _ _)
 have s2:SrtL kx ((arrOf st).extract (sa+na) (sa+na+m)).toList:=by rw[ey];exact sR.sublist (List.take_sublist _ _)
 have c0:∀y,((arrOf st).extract (sa+na) (sa+na+m))[0]?=some y->∀x∈((arrOf st).extract (sa+k) (sa+na)).toList,kx y≤kx x:=fun y hy x hx=>by
  have:y=r0:=by
   have:(R.take m)[0]?=some y:=by rw[←ey,Array.getElem?_toList];exact hy
   rw[List.getElem?_take_of_lt (by exact Y2N q2),er0]at this
   cases this;rfl
  subst this
  rw[ex]at hx
  exact(k3 x hx).1
 have c1:∀x,((arrOf st).extract (sa+k) (sa+na))[((arrOf st).extract (sa+k) (sa+na)).size-1]?=some x->∀y∈((arrOf st).extract (sa+na) (sa+na+m)).toList,kx y≤kx x:=fun x hx y hy=>by
  have:x=ll:=by
   rw[sx]at hx
   have:(L.drop k)[na-k-1]?=some x:=by rw[←ex,Array.getElem?_toList];exact hx
   rw[List.getElem?_drop,show k+(na-k-1)=na-1 by exact Y2O q1,el]at this
   cases this;rfl
  subst this
  rw[ey]at hy
  exact(j2 y hy).1
 have fin:∀(r:Array Keyed) (st2:SortSt),Sg (setPending st (((pendingOf st).setIfInBounds i (sa,na+nb,pw)).eraseIdxIfInBounds (i+1))) st2->Fin' kx ((arrOf st).extract (sa+k) (sa+na)).toList ((arrOf st).extract (sa+na) (sa+na+m)).toList r.toList->
   wpS (model prog w) A E s (ma4 (sa+k) r) Q st2:=by
  rintro r _ ⟨g,rfl⟩ hF
  rw[ex,ey]at hF
  have hl:r.toList.length=(na-k)+m:=by
   have:=hF.1.length_eq
   simp at this
   simp;exact Y2P l2 l3 m1 this
  refine wpS_bind (wpS_modify (wpS_bind (wpS_get (wpS_pure ?_))))
  show Q ((failedOf st).isNone) _
  rw[hf]
  refine h _ (L.take k++(r.toList++R.drop m)) ⟨?_,?_⟩ hk hf ?_ rfl
  ·have p1:(r.toList++R.drop m).Perm (L.drop k++R):=by
    refine(List.Perm.append_right _ hF.1).trans ?_
    rw[List.append_assoc,List.take_append_drop]
   have p2:=List.Perm.append_left (L.take k) p1
   rw[←List.append_assoc (L.take k) (L.drop k),List.take_append_drop]at p2
   exact p2
  ·have mr:∀x∈r.toList,x∈L.drop k∨x∈R.take m:=fun x hx=>List.mem_append.mp (hF.1.mem_iff.mp hx)
   have tk:=List.pairwise_append.mp (show SrtL kx (L.take k++L.drop k) by rw[List.take_append_drop];exact sL)
   have tm:=List.pairwise_append.mp (show SrtL kx (R.take m++R.drop m) by rw[List.take_append_drop];exact sR)
   refine Z1p tk.1 (Z1p hF.2 tm.2.1 fun x hx y hy=>?_) fun x hx y hy=>?_
   ·rcases mr x hx with hx|hx
    ·exact Int.le_trans (hll x (List.mem_of_mem_drop hx)) (j3 y hy).1
    ·exact tm.2.2 x hx y hy
   ·have:=(k2 x hx).1
    rcases List.mem_append.mp hy with hy|hy
    ·rcases mr y hy with hy|hy
     ·exact tk.2.2 x hx y hy
     ·have zz7:=hr0 y (List.mem_of_mem_take hy);exact Y33 this zz7
    ·have zz8:=hr0 y (List.mem_of_mem_drop hy);exact Y33 this zz8
  ·show((r.toList.zipIdx.foldl (fun a x=>a.setIfInBounds (sa+k+x.2) x.1) (arrOf st))).toList=_
   rw[Z3o r.toList 0 (sa+k) (arrOf st) (by exact Y2Q hsz q1 m1 hl),Nat.add_zero,hl]
   have e3:(arrOf st).toList.take (sa+k)=pre++L.take k:=by
    rw[ea,←l1,List.take_length_add_append,List.take_append_of_le_length (by exact Y2H l2 q1)]
   have e4:(arrOf st).toList.drop (sa+k+((na-k)+m))=R.drop m++post:=by
    rw[show sa+k+((na-k)+m)=sa+na+m by exact Y2R q1,←List.drop_drop,dR,List.drop_append_of_le_length (by exact Y2t l3 m1)]
   rw[e3,e4]
   simp
 exact Z3 (fun q3=>wpS_bind (Z3K c hk gx gy s1 s2 (by exact Y2S q1 sx) (by exact Y2T q2 sy) c0 c1 fin)) fun q3=>wpS_bind (Z3L c hk gx gy s1 s2 (by exact Y2U sx q3) (by exact Y2T q2 sy) c0 c1 fin)
end
section
variable {prog:Program} {w:World} {A:Around} {E:pS} {s:Shared} {κ:SortKind} {G:Keyed->Prop} {kx:Keyed->Int}
noncomputable def ka (kx:Keyed->Int) (xs:Array Keyed) (i:Nat):Int:=((xs[i]?).map kx).getD 0
structure SB(st0:SortSt) (lo:Nat) (st:SortSt):Prop where
 kind:kindOf st=kindOf st0
 failed:failedOf st=failedOf st0
 pend:pendingOf st=pendingOf st0
 perm:(arrOf st).toList.Perm (arrOf st0).toList
 keep:∀k,k<lo->(arrOf st)[k]?=(arrOf st0)[k]?
section
variable {st0 st:SortSt} {lo:Nat}
theorem SB.refl:SB st0 lo st0:=⟨rfl,rfl,rfl,.refl _,fun _ _=>rfl⟩
theorem SB.size(h:SB st0 lo st):(arrOf st).size=(arrOf st0).size:=by
 have:=h.perm.length_eq
 simpa using this
theorem SB.mirror(h:SB st0 lo st) {i j:Nat} (hi:lo≤i) (hj:j≤(arrOf st0).size):SB st0 lo (setArr st (mirror (arrOf st) i j ((j-i) / 2))):=
 ⟨h.kind,h.failed,h.pend,(mirror_perm (arrOf st) i j _).toList.trans h.perm,fun k hk=>by
  show(PyProof.Rows.mirror (arrOf st) i j ((j-i) / 2))[k]?=_
  rw[getElem?_mirror_all (by rw[h.size];exact hj),if_neg (by exact Y2V hi hk)]
  exact h.keep k hk⟩
theorem SB.bubble(h:SB st0 lo st) {src d:Nat} (hs:src<(arrOf st0).size) (hd:lo+d≤src):SB st0 lo (setArr st (bubble (arrOf st) src d)):=
 ⟨h.kind,h.failed,h.pend,(bubble_perm (arrOf st) src d).toList.trans h.perm,fun k hk=>by
  show(PyProof.Rows.bubble (arrOf st) src d)[k]?=_
  rw[getElem?_bubble (by rw[h.size];exact hs) d (by exact Y2W hd),if_neg (by exact Y2X hd hk),if_neg (by exact Y2Y hd hk)]
  exact h.keep k hk⟩
theorem Z1e{xs:Array Keyed} {i j:Nat} (hj:j≤xs.size) (k:Nat):ka kx (PyProof.Rows.mirror xs i j ((j-i) / 2)) k=if i≤k∧k<j then ka kx xs (i+j-1-k) else ka kx xs k:=by
 unfold ka
 rw[getElem?_mirror_all hj]
 split<;>rfl
set_option tactic.hygienic true in
theorem ZM{xs:Array Keyed} {i j:Nat} (hj:j≤xs.size) (h:∀k,i≤k->k<j->ka kx xs k=ka kx xs (j-1)) (k:Nat):ka kx (PyProof.Rows.mirror xs i j ((j-i) / 2)) k=ka kx xs k:=by
 rw[Z1e hj]
 split
 ·rename_i z
  have z1:=z.1
  have z2:=z.2
  rw[h (i+j-1-k) (by exact Y48 z2) (by exact Y9d z1 z2),h k z1 z2]
 ·rfl
theorem Z2h{xs:Array Keyed} {src d:Nat} (hs:src<xs.size) (hd:d≤src) (k:Nat):ka kx (PyProof.Rows.bubble xs src d) k=if k=src-d then ka kx xs src else if src-d<k∧k≤src then ka kx xs (k-1) else ka kx xs k:=by
 unfold ka
 rw[getElem?_bubble hs d hd]
 split
 ·rfl
 ·split<;>rfl
theorem ltA(c:Ask (model prog w) A E s κ G kx) {i j:Nat} {Q:Option Bool->SortSt->Prop} (hB:SB st0 lo st) (hk:kindOf st0=κ) (hG:∀x∈(arrOf st0).toList,G x) (hi:i<(arrOf st0).size) (hj:j<(arrOf st0).size)
  (h:Q (some (decide (ka kx (arrOf st) i<ka kx (arrOf st) j))) st):wpS (model prog w) A E s (ltAt' i j) Q st:=by
 obtain⟨x,ex,mx⟩:=Z9 (xs:=arrOf st) (i:=i) (by rw[hB.size];exact hi)
 obtain⟨y,ey,my⟩:=Z9 (xs:=arrOf st) (i:=j) (by rw[hB.size];exact hj)
 rw[ltAt'_eq]
 refine wpS_bind (wpS_get ?_)
 show wpS _ _ _ _ (do let x ←elem' (arrOf st) i;let y ←elem' (arrOf st) j;lt' x y) Q st
 refine wpS_bind (Z4 ex (wpS_bind (Z4 ey (c.ask x y st Q (hG x (hB.perm.mem_iff.mp mx)) (hG y (hB.perm.mem_iff.mp my)) (hB.kind.trans hk) ?_))))
 have e1:ka kx (arrOf st) i=kx x:=by unfold ka;rw[ex];rfl
 have e2:ka kx (arrOf st) j=kx y:=by unfold ka;rw[ey];rfl
 rw[e1,e2]at h
 exact h
end
noncomputable def SSeg (kx:Keyed->Int) (xs:Array Keyed) (lo n:Nat):Prop:=∀i j,lo≤i->i≤j->j<lo+n->ka kx xs i≤ka kx xs j
noncomputable def NSeg (kx:Keyed->Int) (xs:Array Keyed) (lo n:Nat):Prop:=∀i j,lo≤i->i≤j->j<lo+n->ka kx xs j≤ka kx xs i
theorem SSeg.snoc{xs:Array Keyed} {lo n:Nat} (h:SSeg kx xs lo n) (h1:1≤n) (k:ka kx xs (lo+n-1)≤ka kx xs (lo+n)):SSeg kx xs lo (n+1):=fun i j hi hij hj=>by
 by_cases q:j<lo+n
 ·exact h i j hi hij q
 ·have:j=lo+n:=by exact Y2Z hj q
  subst this
  by_cases q2:i=lo+n
  ·subst q2;exact Int.le_refl _
  ·have:=h i (lo+n-1) hi (by exact Y30 hij q2) (by exact Y31 hij q2)
   exact Y32 k this
theorem NSeg.snoc{xs:Array Keyed} {lo n:Nat} (h:NSeg kx xs lo n) (h1:1≤n) (k:ka kx xs (lo+n)≤ka kx xs (lo+n-1)):NSeg kx xs lo (n+1):=fun i j hi hij hj=>by
 by_cases q:j<lo+n
 ·exact h i j hi hij q
 ·have:j=lo+n:=by exact Y2Z hj q
  subst this
  by_cases q2:i=lo+n
  ·subst q2;exact Int.le_refl _
  ·have:=h i (lo+n-1) hi (by exact Y30 hij q2) (by exact Y31 hij q2)
   exact Y33 k this
theorem NSeg.congr{xs ys:Array Keyed} {lo n:Nat} (h:NSeg kx xs lo n) (e:∀k,ka kx ys k=ka kx xs k):NSeg kx ys lo n:=fun i j hi hij hj=>by
 rw[e,e];exact h i j hi hij hj
theorem SSeg.one{xs:Array Keyed} {lo:Nat}:SSeg kx xs lo 1:=fun i j hi hij hj=>by
 have:i=j:=by exact Y34 hi hij hj
 subst this;exact Int.le_refl _
theorem NSeg.one{xs:Array Keyed} {lo:Nat}:NSeg kx xs lo 1:=fun i j hi hij hj=>by
 have:i=j:=by exact Y34 hi hij hj
 subst this;exact Int.le_refl _
abbrev AscT:=Option (Option Nat)×Nat
abbrev DscT:=Option (Option Nat)×Nat×Nat
noncomputable def ascP (lo a nrem:Nat):StateT SortSt Sem AscT:=
 forIn [a:nrem] ((none,a):AscT) fun _ r=>do
  let x ←ltAt' (lo+r.2) (lo+r.2-1)
  match x with
  | some smaller=>if smaller=true then pure (ForInStep.done (none,r.2)) else pure (ForInStep.yield (none,r.2+1))
  | _=>pure (ForInStep.done (some none,r.2))
noncomputable def Z2s (lo n nrem:Nat):StateT SortSt Sem (Option Nat):=do
 reverseSlice' lo (lo+n)
 let r ←ascP lo n nrem
 match r.1 with
 | some r=>pure r
 | none=>pure (some r.2)
noncomputable def dscP (lo n nrem:Nat):StateT SortSt Sem DscT:=
 forIn [n:nrem] ((none,n,0):DscT) fun _ r=>do
  let x ←ltAt' (lo+r.2.1) (lo+r.2.1-1)
  match x with
  | some smaller=>
   if smaller=true then
    if r.2.2>0 then do
     reverseSlice' (lo+r.2.1-(r.2.2+1)) (lo+r.2.1)
     pure (ForInStep.yield (none,r.2.1+1,0))
    else pure (ForInStep.yield (none,r.2.1+1,0))
   else do
    let x ←ltAt' (lo+r.2.1-1) (lo+r.2.1)
    match x with
    | some larger=>if larger=true then pure (ForInStep.done (none,r.2.1,r.2.2)) else pure (ForInStep.yield (none,r.2.1+1,r.2.2+1))
    | _=>pure (ForInStep.done (some none,r.2.1,r.2.2))
  | _=>pure (ForInStep.done (some none,r.2.1,r.2.2))
noncomputable def Z16 (lo n nrem:Nat):StateT SortSt Sem (Option Nat):=do
 liftM (rule "list.sort.descending-run")
 let r ←dscP lo (n+1) nrem
 match r.1 with
 | some r=>pure r
 | none=>
  if r.2.2>0 then do
   reverseSlice' (lo+r.2.1-(r.2.2+1)) (lo+r.2.1)
   Z2s lo r.2.1 nrem
  else Z2s lo r.2.1 nrem
theorem Z2M(lo nrem:Nat):countRun' lo nrem=(do
  let r ←ascP lo 1 nrem
  match r.1 with
  | some r=>pure r
  | none=>
   if (r.2==nrem)=true then pure (some r.2)
   else if r.2>1 then do
    let x ←ltAt' lo (lo+r.2-1)
    match x with
    | some rose=>if rose=true then pure (some r.2) else do
      reverseSlice' lo (lo+r.2)
      Z16 lo r.2 nrem
    | _=>pure none
   else Z16 lo r.2 nrem):=by kernel_rfl
end
section
variable {prog:Program} {w:World} {A:Around} {E:pS} {s:Shared} {κ:SortKind} {G:Keyed->Prop} {kx:Keyed->Int} {st0 st:SortSt} {lo:Nat}
theorem Z3p(c:Ask (model prog w) A E s κ G kx) {a nrem:Nat} {Q:AscT->SortSt->Prop} (hB:SB st0 lo st) (hk:kindOf st0=κ) (hG:∀x∈(arrOf st0).toList,G x) (hn:lo+nrem≤(arrOf st0).size) (ha:1≤a) (han:a≤nrem) (hs:SSeg kx (arrOf st) lo a)
  (h:∀n,a≤n->n≤nrem->SSeg kx (arrOf st) lo n->(n=nrem∨ka kx (arrOf st) (lo+n)<ka kx (arrOf st) (lo+n-1))->Q (none,n) st):wpS (model prog w) A E s (ascP lo a nrem) Q st:=by
 unfold ascP
 refine wpS_forRange (I:=fun x r st'=>st'=st∧r=(none,x)∧SSeg kx (arrOf st) lo x) ?_ ?_ ⟨rfl,rfl,hs⟩
 ·rintro x r st' h1 h2 ⟨rfl,rfl,hs'⟩
  dsimp only
  refine wpS_bind (ltA c hB hk hG (by exact Yb hn h2) (by exact Yc hn h2) ?_)
  by_cases q:ka kx (arrOf st') (lo+x)<ka kx (arrOf st') (lo+x-1)
  ·rw[decide_eq_true q]
   simp only[if_true]
   exact wpS_pure (h x h1 (by exact Yd h2) hs' (.inr q))
  ·rw[decide_eq_false q]
   simp only[Bool.false_eq_true,if_false]
   exact wpS_pure ⟨rfl,rfl,hs'.snoc (by exact Ye ha h1) (by exact Yg q)⟩
 ·rintro r st' ⟨rfl,rfl,hs'⟩
  rw[Nat.max_eq_right han]at hs' ⊢
  exact h nrem han (Nat.le_refl _) hs' (.inl rfl)
theorem Z2N(c:Ask (model prog w) A E s κ G kx) {n nrem:Nat} {Q:Option Nat->SortSt->Prop} (hB:SB st0 lo st) (hk:kindOf st0=κ) (hG:∀x∈(arrOf st0).toList,G x) (hn:lo+nrem≤(arrOf st0).size) (h1:1≤n) (hnn:n≤nrem) (hs:NSeg kx (arrOf st) lo n)
  (h:∀m st',SB st0 lo st'->1≤m->m≤nrem->SSeg kx (arrOf st') lo m->Q (some m) st'):wpS (model prog w) A E s (Z2s lo n nrem) Q st:=by
 unfold Z2s
 refine wpS_bind (wpS_reverse ?_)
 have hB':=hB.mirror (i:=lo) (j:=lo+n) (Nat.le_refl _) (by exact Yh hn hnn)
 refine wpS_bind (Z3p c hB' hk hG hn h1 hnn (fun i j hi hij hj=>?_) fun m m1 m2 m3 _=>wpS_pure (h m _ hB' (by exact Ye h1 m1) m2 m3))
 show ka kx (PyProof.Rows.mirror (arrOf st) lo (lo+n) ((lo+n-lo) / 2)) i≤ka kx (PyProof.Rows.mirror (arrOf st) lo (lo+n) ((lo+n-lo) / 2)) j
 rw[Z1e (by rw[hB.size];exact Yh hn hnn),Z1e (by rw[hB.size];exact Yh hn hnn),if_pos (by exact Yi hi hij hj),if_pos (by exact Yj hi hij hj)]
 exact hs _ _ (by exact Yk hj) (by exact Yl hij) (by exact Ym hi hj)
theorem Z5w{n nrem:Nat} {Q:DscT->SortSt->Prop} (c:Ask (model prog w) A E s κ G kx) (hB:SB st0 lo st) (hk:kindOf st0=κ) (hG:∀x∈(arrOf st0).toList,G x) (hn:lo+nrem≤(arrOf st0).size) (h1:1≤n) (hnn:n≤nrem) (hs:NSeg kx (arrOf st) lo n) (h:∀m q st',SB st0 lo st'->n≤m->m≤nrem->NSeg kx (arrOf st') lo m->q+1≤m->(∀i,lo+m-(q+1)≤i->i<lo+m->ka kx (arrOf st') i=ka kx (arrOf st') (lo+m-1))->Q (none,m,q) st'):wpS (model prog w) A E s (dscP lo n nrem) Q st:=by
 revert prog w A E s κ G kx st0 st lo n nrem Q;k_extra "e14";intro prog w A E s κ G kx st0 st lo n nrem Q c hB hk hG hn h1 hnn hs h
 unfold dscP
 refine wpS_forRange (I:=fun x r st'=>∃q,r=(none,x,q)∧SB st0 lo st'∧NSeg kx (arrOf st') lo x∧q+1≤x∧(∀i,lo+x-(q+1)≤i->i<lo+x->ka kx (arrOf st') i=ka kx (arrOf st') (lo+x-1))) ?_ ?_ ⟨0,rfl,hB,hs,by exact Yn h1,fun i h1 h2=>by congr 1;exact Yo h1 h2⟩
 ·rintro x r st' g1 g2 ⟨q,rfl,hB',hs',hq,he⟩
  dsimp only
  have hsz:lo+x≤(arrOf st').size:=by rw[hB'.size];exact Yp hn g2
  refine wpS_bind (ltA c hB' hk hG (by exact Yb hn g2) (by exact Yc hn g2) ?_)
  by_cases p:ka kx (arrOf st') (lo+x)<ka kx (arrOf st') (lo+x-1)
  ·rw[decide_eq_true p]
   simp only[if_true]
   have step1:∀xs:Array Keyed,(∀k,ka kx xs k=ka kx (arrOf st') k)->NSeg kx xs lo (x+1):=fun xs e=>(hs'.snoc (by exact Yq hq) (by exact Yr p)).congr e
   by_cases hq0:q>0
   ·rw[if_pos hq0]
    refine wpS_bind (wpS_reverse (wpS_pure ⟨0,rfl,hB'.mirror (by exact Ys hq) (by exact Yp hn g2),step1 _ (ZM hsz he),by exact Yt,fun i h1 h2=>by congr 1;exact Yu h1 h2⟩))
   ·rw[if_neg hq0]
    exact wpS_pure ⟨0,rfl,hB',step1 _ (fun _=>rfl),by exact Yt,fun i h1 h2=>by congr 1;exact Yu h1 h2⟩
  ·rw[decide_eq_false p]
   simp only[Bool.false_eq_true,if_false]
   refine wpS_bind (ltA c hB' hk hG (by exact Yc hn g2) (by exact Yb hn g2) ?_)
   by_cases p2:ka kx (arrOf st') (lo+x-1)<ka kx (arrOf st') (lo+x)
   ·rw[decide_eq_true p2]
    simp only[if_true]
    exact wpS_pure (h x q st' hB' g1 (by exact Yd g2) hs' hq he)
   ·rw[decide_eq_false p2]
    simp only[Bool.false_eq_true,if_false]
    have ex:ka kx (arrOf st') (lo+x)=ka kx (arrOf st') (lo+x-1):=by exact Yv p p2
    refine wpS_pure ⟨q+1,rfl,hB',hs'.snoc (by exact Yq hq) (by exact Yw ex),by exact Yx hq,fun i h1 h2=>?_⟩
    rw[show lo+(x+1)-1=lo+x from rfl]
    by_cases hix:i=lo+x
    ·rw[hix]
    ·rw[ex];exact he i (by exact Yy h1) (by exact Yz h2 hix)
 ·rintro r st' ⟨q,rfl,hB',hs',hq,he⟩
  rw[Nat.max_eq_right hnn]at hs' hq he ⊢
  exact h nrem q st' hB' hnn (Nat.le_refl _) hs' hq he
theorem Z1x(c:Ask (model prog w) A E s κ G kx) {n nrem:Nat} {Q:Option Nat->SortSt->Prop} (hB:SB st0 lo st) (hk:kindOf st0=κ) (hG:∀x∈(arrOf st0).toList,G x) (hn:lo+nrem≤(arrOf st0).size) (hnn:n+1≤nrem) (hs:NSeg kx (arrOf st) lo (n+1))
  (h:∀m st',SB st0 lo st'->1≤m->m≤nrem->SSeg kx (arrOf st') lo m->Q (some m) st'):wpS (model prog w) A E s (Z16 lo n nrem) Q st:=by
 unfold Z16
 refine wpS_bind (wpS_lift (wpAny_rule ⟨rfl,?_⟩))
 refine wpS_bind (Z5w c hB hk hG hn (by exact YA) hnn hs fun m q st' hB' m1 m2 hs' hq he=>?_)
 dsimp only
 have hsz:lo+m≤(arrOf st').size:=by rw[hB'.size];exact Yh hn m2
 by_cases hq0:q>0
 ·rw[if_pos hq0]
  exact wpS_bind (wpS_reverse (Z2N c (hB'.mirror (by exact Ys hq) (by exact Yh hn m2)) hk hG hn (by exact Yq hq) m2 (hs'.congr (ZM hsz he)) h))
 ·rw[if_neg hq0]
  exact Z2N c hB' hk hG hn (by exact Yq hq) m2 hs' h
theorem Z4o(c:Ask (model prog w) A E s κ G kx) {nrem:Nat} {Q:Option Nat->SortSt->Prop} (hB:SB st0 lo st) (hk:kindOf st0=κ) (hG:∀x∈(arrOf st0).toList,G x) (hn:lo+nrem≤(arrOf st0).size) (h1:1≤nrem)
  (h:∀m st',SB st0 lo st'->1≤m->m≤nrem->SSeg kx (arrOf st') lo m->Q (some m) st'):wpS (model prog w) A E s (countRun' lo nrem) Q st:=by
 rw[Z2M]
 refine wpS_bind (Z3p c hB hk hG hn (Nat.le_refl 1) h1 SSeg.one fun n n1 n2 n3 n4=>?_)
 dsimp only
 by_cases q1:n=nrem
 ·rw[if_pos (by simpa using q1)]
  exact wpS_pure (h n st hB n1 n2 n3)
 rw[if_neg (by simpa using q1)]
 have hlt:=n4.resolve_left q1
 by_cases q2:n>1
 ·rw[if_pos q2]
  refine wpS_bind (ltA c hB hk hG (by exact YB hn h1) (by exact YC hn n2 q1) ?_)
  by_cases q3:ka kx (arrOf st) lo<ka kx (arrOf st) (lo+n-1)
  ·rw[decide_eq_true q3]
   simp only[if_true]
   exact wpS_pure (h n st hB n1 n2 n3)
  ·rw[decide_eq_false q3]
   simp only[Bool.false_eq_true,if_false]
   have hall:∀k,lo≤k->k<lo+n->ka kx (arrOf st) k=ka kx (arrOf st) (lo+n-1):=fun k k1 k2=>by
    have a1:=n3 lo k (Nat.le_refl _) k1 k2
    have a2:=n3 k (lo+n-1) k1 (by exact YD k2) (by exact YE k2)
    exact YF q3 a1 a2
   have e:=ZM (kx:=kx) (xs:=arrOf st) (i:=lo) (j:=lo+n) (by rw[hB.size];exact Yh hn n2) hall
   refine wpS_bind (wpS_reverse (Z1x c (hB.mirror (Nat.le_refl _) (by exact Yh hn n2)) hk hG hn (by exact YG n2 q1) (NSeg.congr (NSeg.snoc (fun i j hi hij hj=>?_) (by exact YH q2) (by exact Yr hlt)) e) h))
   rw[hall i hi (by exact YI hij hj),hall j (by exact YJ hi hij) hj]
   exact Int.le_refl _
 ·rw[if_neg q2]
  have:n=1:=by exact YK n1 q2
  subst this
  exact Z1x c hB hk hG hn (by exact YL n2 q1) (NSeg.one.snoc (Nat.le_refl _) (by exact Yr hlt)) h
abbrev BsT:=Option Bool×Nat×Nat
noncomputable def bsL (lo k:Nat):StateT SortSt Sem BsT:=forIn [0:k] ((none,0,k):BsT) fun _ r=>
 if r.2.1≥r.2.2 then pure (.done (none,r.2.1,r.2.2)) else ltAt' (lo+k) (lo+(r.2.1+r.2.2) / 2)>>=fun x=>match x with
  | some z=>if z=true then pure (.yield (none,r.2.1,(r.2.1+r.2.2) / 2)) else pure (.yield (none,(r.2.1+r.2.2) / 2+1,r.2.2))
  | _=>pure (.done (some false,r.2.1,r.2.2))
noncomputable def bsK (lo k:Nat):StateT SortSt Sem (ForInStep (Option Bool×Unit)):=bsL lo k>>=fun r=>match r.1 with
 | some r=>pure (.done (some r,()))
 | none=>moveDown' (lo+k) (lo+r.2.1)>>=fun _=>pure (.yield (none,()))
theorem Z4X(lo n ok:Nat):binarySort' lo n ok=(forIn [max ok 1:n] ((none,()):Option Bool×Unit) (fun k _=>bsK lo k)>>=fun r=>match r.1 with
 | some r=>pure r
 | none=>pure true):=by kernel_rfl
structure BsI(kx:Keyed->Int) (a:Array Keyed) (lo k l u:Nat):Prop where
 p1:l≤u
 p2:u≤k
 p4:∀i,i<l->ka kx a (lo+i)≤ka kx a (lo+k)
 p5:∀i,u≤i->i<k->ka kx a (lo+k)≤ka kx a (lo+i)
theorem Z5U{n k:Nat} {Q:BsT->SortSt->Prop} (c:Ask (model prog w) A E s κ G kx) (hB:SB st0 lo st) (hk:kindOf st0=κ) (hG:∀x∈(arrOf st0).toList,G x) (hn:lo+n≤(arrOf st0).size) (hkn:k<n) (hs:SSeg kx (arrOf st) lo k) (h:∀l,BsI kx (arrOf st) lo k l l->Q (none,l,l) st):wpS (model prog w) A E s (bsL lo k) Q st:=by
 revert prog w A E s κ G kx st0 st lo n k Q;k_extra "e14";intro prog w A E s κ G kx st0 st lo n k Q c hB hk hG hn hkn hs h
 refine wpS_mono (wpS_forRange (I:=fun x (r:BsT) st'=>st'=st∧r.1=none∧r.2.2-r.2.1≤k-x∧BsI kx (arrOf st) lo k r.2.1 r.2.2) (Q:=fun(r:BsT) st'=>st'=st∧∃l,r=(none,l,l)∧BsI kx (arrOf st) lo k l l) ?_ ?_ ⟨rfl,rfl,by exact YN,⟨Nat.zero_le _,Nat.le_refl _,fun i hi=>absurd hi (Nat.not_lt_zero _),fun i h1 h2=>absurd h2 (Nat.not_lt.mpr h1)⟩⟩) ?_
 ·rintro x ⟨r,l,u⟩ st' _ hx ⟨rfl,rfl,p3,I⟩
  have p1:=I.p1
  have p2:=I.p2
  refine Z3 (fun hge=>?_) fun hge=>wpS_bind (ltA c hB hk hG (by exact Yb hn hkn) (by exact YR hn hkn p1 p2) (Z27 (fun q=>?_) fun q=>?_))
  ·obtain rfl:l=u:=by exact YO p1 hge
   exact wpS_pure ⟨rfl,l,rfl,I⟩
  ·refine wpS_pure ⟨rfl,rfl,by exact YW p3,by exact YT hge,by exact YV p1 p2,I.p4,fun i i1 i2=>?_⟩
   have:=hs (lo+(l+u) / 2) (lo+i) (by exact YY) (by exact Y10 i1) (by exact Y11 i2)
   exact Y12 q this
  ·refine wpS_pure ⟨rfl,rfl,by exact Y16 p3,by exact Y14 hge,by exact Y15 p2,fun i i1=>?_,I.p5⟩
   have:=hs (lo+i) (lo+(l+u) / 2) (by exact Y17) (by exact Y19 i1) (by exact Y1b p2 hge)
   exact Y1c q this
 ·rintro⟨r,l,u⟩ st' ⟨rfl,rfl,p3,I⟩
  have p1:=I.p1
  obtain rfl:l=u:=by exact Y1d p1 p3
  exact⟨rfl,l,rfl,I⟩
 ·rintro r st' ⟨rfl,l,rfl,I⟩
  exact h l I
theorem Z5V(c:Ask (model prog w) A E s κ G kx) {n k:Nat} {Q:ForInStep (Option Bool×Unit)->SortSt->Prop} (hB':SB st0 lo st) (hk:kindOf st0=κ) (hG:∀x∈(arrOf st0).toList,G x) (hn:lo+n≤(arrOf st0).size) (hkn:k<n) (hs':SSeg kx (arrOf st) lo k)
  (h:∀st',SB st0 lo st'->SSeg kx (arrOf st') lo (k+1)->Q (.yield (none,())) st'):wpS (model prog w) A E s (bsK lo k) Q st:=by
 refine wpS_bind (Z5U c hB' hk hG hn hkn hs' fun l I=>?_)
 have p2:=I.p2
 have p4:=I.p4
 have p5:=I.p5
 show wpS _ _ _ _ (moveDown' (lo+k) (lo+l)>>=_) _ _
 rw[moveDown'_eq]
 refine wpS_bind (wpS_modify (wpS_pure (h _ (hB'.bubble (by exact Yb hn hkn) (by exact Y1e)) fun i j hi hij hj=>?_)))
 show ka kx (PyProof.Rows.bubble (arrOf st) (lo+k) (lo+k-(lo+l))) i≤ka kx (PyProof.Rows.bubble (arrOf st) (lo+k) (lo+k-(lo+l))) j
 have hks:lo+k<(arrOf st).size:=by rw[hB'.size];exact Yb hn hkn
 rw[Z2h hks (by exact Y1f),Z2h hks (by exact Y1f),show lo+k-(lo+k-(lo+l))=lo+l from Nat.sub_sub_self (Nat.add_le_add_left p2 lo)]
 obtain⟨i,rfl⟩:∃m,i=lo+m:=⟨i - lo,by exact Y1g hi⟩
 obtain⟨j,rfl⟩:∃m,j=lo+m:=⟨j - lo,by exact Y1h hij⟩
 rcases Nat.lt_trichotomy i l with x1|x1|x1
 ·rw[if_neg (by exact Y1i x1),if_neg (by exact Y1j x1)]
  rcases Nat.lt_trichotomy j l with y1|y1|y1
  ·rw[if_neg (by exact Y1i y1),if_neg (by exact Y1j y1)];exact hs' _ _ (by exact Y17) (by exact Y1k hij) (by exact Y1l p2 y1)
  ·rw[if_pos (by exact Y1m y1)];exact p4 i x1
  ·rw[if_neg (by exact Y1n y1),if_pos (by exact Y1o hj y1)];exact hs' _ _ (by exact Y17) (by exact Y1p x1 y1) (by exact Y1q p2 hj x1)
 ·rw[if_pos (by exact Y1m x1)]
  rcases Nat.lt_trichotomy j l with y1|y1|y1
  ·exact Y1r hij x1 y1
  ·rw[if_pos (by exact Y1m y1)];exact Int.le_refl _
  ·rw[if_neg (by exact Y1n y1),if_pos (by exact Y1o hj y1),show lo+j-1=lo+(j-1) from Nat.add_sub_assoc (Nat.succ_le_of_lt (Nat.zero_lt_of_lt y1)) lo];exact p5 _ (by exact Y1s y1) (by exact Y1t hj y1)
 ·rw[if_neg (by exact Y1n x1),if_pos (by exact Y1u hj hij x1),if_neg (by exact Y1v hij x1),if_pos (by exact Y1w hj hij x1)]
  exact hs' _ _ (by exact Y1x x1) (by exact Y1y hij) (by exact Y1z hj hij x1)
theorem Z5x(c:Ask (model prog w) A E s κ G kx) {n ok:Nat} {Q:Bool->SortSt->Prop} (hB:SB st0 lo st) (hk:kindOf st0=κ) (hG:∀x∈(arrOf st0).toList,G x) (hn:lo+n≤(arrOf st0).size) (h1:1≤ok) (hok:ok≤n) (hs:SSeg kx (arrOf st) lo ok)
  (h:∀st',SB st0 lo st'->SSeg kx (arrOf st') lo n->Q true st'):wpS (model prog w) A E s (binarySort' lo n ok) Q st:=by
 rw[Z4X]
 refine wpS_bind (wpS_mono (wpS_forRange (I:=fun k r st'=>r=(none,())∧SB st0 lo st'∧SSeg kx (arrOf st') lo k) (Q:=fun r st'=>r=(none,())∧SB st0 lo st'∧SSeg kx (arrOf st') lo n) ?_ ?_ ⟨rfl,hB,by rw[Nat.max_eq_left h1];exact hs⟩) ?_)
 ·rintro k r st' hak hkn ⟨rfl,hB',hs'⟩
  exact Z5V c hB' hk hG hn hkn hs' fun st'' B S=>⟨rfl,B,S⟩
 ·rintro r st' ⟨rfl,hB',hs'⟩
  rw[Nat.max_eq_left h1,Nat.max_eq_right hok]at hs'
  exact⟨rfl,hB',hs'⟩
 ·rintro r st' ⟨rfl,hB',hs'⟩
  exact wpS_pure (h st' hB' hs')
end
section
variable {prog:Program} {w:World} {A:Around} {E:pS} {s:Shared} {κ:SortKind} {G:Keyed->Prop} {kx:Keyed->Int}
noncomputable def Tile (kx:Keyed->Int):Nat->List (Nat×Nat)->List (List Keyed)->Prop
 | _,[],[]=>True
 | off,p::ps,r::rs=>p.1=off∧r.length=p.2∧1≤p.2∧SrtL kx r∧Tile kx (off+p.2) ps rs
 | _,_,_=>False
theorem Tile.split:∀{p1 ps:List (Nat×Nat)} {off:Nat} {rs:List (List Keyed)},Tile kx off (p1++ps) rs->∃r1 r2,rs=r1++r2∧r1.length=p1.length∧Tile kx off p1 r1∧Tile kx (off+r1.flatten.length) ps r2
 | [],ps,off,rs,h=>⟨[],rs,rfl,rfl,trivial,h⟩
 | p::p1,ps,off,[],h=>h.elim
 | p::p1,ps,off,r::rs,h=>by
  obtain⟨a,b,c,d,e⟩:=h
  obtain⟨r1,r2,rfl,hl,t1,t2⟩:=Tile.split e
  refine⟨r::r1,r2,rfl,by simp[hl],⟨a,b,c,d,t1⟩,?_⟩
  rw[List.flatten_cons,List.length_append,b,←Nat.add_assoc]
  exact t2
theorem Tile.join:∀{p1 ps:List (Nat×Nat)} {off:Nat} {r1 r2:List (List Keyed)},Tile kx off p1 r1->Tile kx (off+r1.flatten.length) ps r2->Tile kx off (p1++ps) (r1++r2)
 | [],ps,off,[],r2,_,h=>h
 | [],ps,off,_::_,r2,h,_=>h.elim
 | p::p1,ps,off,[],r2,h,_=>h.elim
 | p::p1,ps,off,r::r1,r2,h,h2=>by
  obtain⟨a,b,c,d,e⟩:=h
  rw[List.flatten_cons,List.length_append,b,←Nat.add_assoc]at h2
  exact⟨a,b,c,d,Tile.join e h2⟩
theorem Tile.len:∀{ps:List (Nat×Nat)} {off:Nat} {rs:List (List Keyed)},Tile kx off ps rs->ps.length≤rs.flatten.length
 | [],_,_,_=>Nat.zero_le _
 | p::ps,off,[],h=>h.elim
 | p::ps,off,r::rs,h=>by
  obtain⟨a,b,c,d,e⟩:=h
  have:=Tile.len e
  rw[List.flatten_cons,List.length_append,List.length_cons]
  exact Y35 b c this
abbrev pr2(t:Nat×Nat×Nat):Nat×Nat:=(t.1,t.2.1)
structure RS(kx:Keyed->Int) (κ:SortKind) (a0:List Keyed) (rest:List Keyed) (lo:Nat) (st:SortSt):Prop where
 kind:kindOf st=κ
 failed:failedOf st=none
 perm:(arrOf st).toList.Perm a0
 tile:∃rs,(arrOf st).toList=rs.flatten++rest∧rs.flatten.length=lo∧Tile kx 0 ((pendingOf st).toList.map pr2) rs
variable {a0 rest:List Keyed} {lo:Nat} {st:SortSt}
theorem Z5W{α:Type} {l:List α} {i:Nat} (h:i+1<l.length):∃l1 x y l2,l=l1++x::y::l2∧l1.length=i:=by
 refine⟨l.take i,l[i],l[i+1],l.drop (i+2),?_,by simp;exact Y36 h⟩
 have e1:l.drop i=l[i]::l.drop (i+1):=List.drop_eq_getElem_cons (by exact Y37 h)
 have e2:l.drop (i+1)=l[i+1]::l.drop (i+2):=List.drop_eq_getElem_cons h
 rw[←e2,←e1,List.take_append_drop]
theorem Z5X{p:Prop} [Decidable p] {a b n:Nat} (h1:a≤n) (h2:b≤n):(if p then a else b)≤n:=by split<;>assumption
theorem Z1R{α β:Type} (g:α->β) (f:α->α) (hf:∀x,g (f x)=g x):∀(l:List α) (i:Nat),(l.modify i f).map g=l.map g
 | [],i=>by simp
 | x::l,0=>by simp[hf]
 | x::l,i+1=>by simp[Z1R g f hf l i]
theorem RS.power(h:RS kx κ a0 rest lo st) {k:Nat} {f:Nat×Nat×Nat->Nat×Nat×Nat} (hf:∀t,pr2 (f t)=pr2 t):RS kx κ a0 rest lo (setPending st ((pendingOf st).modify k f)):=by
 obtain⟨k1,k2,k3,rs,e1,e2,T⟩:=h
 refine⟨k1,k2,k3,rs,e1,e2,?_⟩
 show Tile kx 0 (((pendingOf st).modify k f).toList.map pr2) rs
 rw[Array.toList_modify,Z1R pr2 f hf]
 exact T
theorem Z1f{i:Nat} {Q:Bool->SortSt->Prop} (c:Ask (model prog w) A E s κ G kx) (hG:∀x∈a0,G x) (h:RS kx κ a0 rest lo st) (hi:i+1<(pendingOf st).size) (hQ:∀st',RS kx κ a0 rest lo st'->(pendingOf st').size+1=(pendingOf st).size->Q true st'):wpS (model prog w) A E s (mergeAt' i) Q st:=by
 revert prog w A E s κ G kx a0 rest lo st i Q;k_extra "e14";intro prog w A E s κ G kx a0 rest lo st i Q c hG h hi hQ
 obtain⟨k1,k2,k3,rs,e1,e2,T⟩:=h
 obtain⟨p1,⟨sa,na,pw⟩,⟨sb,nb,q⟩,p2,ep,lp⟩:=Z5W (l:=(pendingOf st).toList) (i:=i) (by simpa using hi)
 rw[ep,List.map_append,List.map_cons,List.map_cons]at T
 obtain⟨r1,r2,rfl,lr,T1,T2⟩:=Tile.split T
 rw[Nat.zero_add]at T2
 match r2,T2 with
 | [],T2=>exact T2.elim
 | [_],T2=>exact T2.2.2.2.2.elim
 | L::R::r2,T2=>
  obtain⟨b1,b2,b3,b4,c1,c2,c3,c4,c5⟩:=T2
  dsimp only[pr2]at b1 b2 b3 c1 c2 c3 c5
  subst b1
  have ea:(arrOf st).toList=r1.flatten++(L++(R++(r2.flatten++rest))):=by rw[e1];simp
  have g1:(pendingOf st)[i]?=some (r1.flatten.length,na,pw):=by
   rw[←Array.getElem?_toList,ep,List.getElem?_append_right (by exact Y2s lp),lp,Nat.sub_self];rfl
  have g2:(pendingOf st)[i+1]?=some (r1.flatten.length+na,nb,q):=by
   rw[←Array.getElem?_toList,ep,List.getElem?_append_right (by exact Y38 lp),lp,show i+1-i=1 by exact Y39,c1];rfl
  refine Z3M c k1 k2 g1 g2 ea rfl b2 c2 b3 c3 b4 c4 (fun x hx=>hG x (k3.mem_iff.mp hx)) fun st' N hF n1 n2 n3 n4=>?_
  have lN:N.length=na+nb:=by rw[hF.1.length_eq];simp;exact Y3a b2 c2
  have hp':(pendingOf st').toList=p1++(r1.flatten.length,na+nb,pw)::p2:=by
   rw[n4,Array.toList_eraseIdxIfInBounds,Array.toList_setIfInBounds,ep,List.set_append_right _ _ (by exact Y2s lp),lp,Nat.sub_self,List.set_cons_zero,←lp,List.eraseIdx_append_of_length_le (by exact Y3b)]
   simp
  refine hQ st' ⟨n1,n2,?_,r1++N::r2,?_,?_,?_⟩ ?_
  ·rw[n3]
   refine List.Perm.trans ?_ k3
   rw[ea]
   refine List.Perm.append_left _ ?_
   rw[←List.append_assoc L R]
   exact List.Perm.append_right _ hF.1
  ·rw[n3];simp
  ·rw[←e2,List.flatten_append,List.flatten_append,List.flatten_cons,List.flatten_cons,List.flatten_cons]
   simp only[List.length_append]
   exact Y3c b2 c2 lN
  ·rw[hp',List.map_append,List.map_cons]
   refine Tile.join T1 ?_
   rw[Nat.zero_add]
   refine⟨rfl,lN,(show 1≤na+nb by exact Y3d c3),hF.2,?_⟩
   dsimp only[pr2]
   rw[←Nat.add_assoc]
   exact c5
  ·rw[←Array.length_toList,←Array.length_toList,hp',ep];simp;exact Y3e
noncomputable def Z3q (N pw:Nat):StateT SortSt Sem (Option Unit×Unit):=
 forIn [0:N] ((none,()):Option Unit×Unit) fun _ _=>do
  let s ←get
  match (if (pendingOf s).size>1 then(pendingOf s)[(pendingOf s).size-2]? else none) with
  | some (_,_,older)=>if older≤pw then pure (ForInStep.done (none,())) else do
    let b ←mergeAt' ((pendingOf s).size-2)
    if (!b)=true then pure (ForInStep.done (some (),())) else pure (ForInStep.yield (none,()))
  | _=>pure (ForInStep.done (none,()))
noncomputable def Z2O (lo n:Nat):StateT SortSt Sem (ForInStep (Option Unit×Nat)):=do
 modify fun s=>setPending s ((pendingOf s).push (lo,n,0))
 pure (ForInStep.yield (none,lo+n))
noncomputable def Z1S (N lo n:Nat):StateT SortSt Sem (ForInStep (Option Unit×Nat)):=do
 let s ←get
 match (pendingOf s).back? with
 | some (s1,n1,_)=>do
  let r ←Z3q N (power' N (2*s1+n1) (2*s1+n1+n1+n) N)
  match r.1 with
  | some r=>pure (ForInStep.done (some r,lo))
  | none=>do
   modify fun s=>setPending s ((pendingOf s).modify ((pendingOf s).size-1) fun x=>(x.1,x.2.1,power' N (2*s1+n1) (2*s1+n1+n1+n) N))
   Z2O lo n
 | _=>Z2O lo n
noncomputable def Z4p (N mr:Nat) (c:Option Unit×Nat):StateT SortSt Sem (ForInStep (Option Unit×Nat)):=
 if c.2≥N then pure (ForInStep.done (none,c.2)) else countRun' c.2 (N-c.2)>>=fun r=>match r with
  | some found=>if found<mr then(do
    liftM (rule "list.sort.binary-insertion")
    let b ←binarySort' c.2 (min (N-c.2) mr) found
    if (!b)=true then pure (ForInStep.done (some (),c.2)) else Z1S N c.2 (min (N-c.2) mr))
   else Z1S N c.2 found
  | _=>pure (ForInStep.done (some (),c.2))
noncomputable def srAt (p:Array (Nat×Nat×Nat)):Nat:=if ((if p.size-2>0 then p[p.size-2-1]?.map (·.2.1) else none).any (·<(p[p.size-2+1]?.elim 0 (·.2.1))))=true then p.size-2-1 else p.size-2
noncomputable def Z4q (N:Nat):StateT SortSt Sem (Option Unit×Unit):=
 forIn [0:N] ((none,()):Option Unit×Unit) fun _ _=>do
  let s ←get
  if (pendingOf s).size≤1 then pure (ForInStep.done (none,())) else do
   let b ←mergeAt' (srAt (pendingOf s))
   if (!b)=true then pure (ForInStep.done (some (),())) else pure (ForInStep.yield (none,()))
theorem Z28:sortRuns'=(do
 let s ←get
 let r ←forIn [0:(arrOf s).size] ((none,0):Option Unit×Nat) fun _ c=>Z4p (arrOf s).size (minRun' (arrOf s).size (arrOf s).size 0) c
 match r.1 with
 | some r=>pure r
 | none=>do
  let q ←Z4q (arrOf s).size
  match q.1 with
  | some r=>pure r
  | none=>pure ()):=by kernel_rfl
theorem Z3N(c:Ask (model prog w) A E s κ G kx) {N pw:Nat} {Q:Option Unit×Unit->SortSt->Prop} (hG:∀x∈a0,G x) (R:RS kx κ a0 rest lo st) (h:∀st',RS kx κ a0 rest lo st'->Q (none,()) st'):wpS (model prog w) A E s (Z3q N pw) Q st:=by
 refine wpS_mono (wpS_forRange (I:=fun _ r st'=>r=(none,())∧RS kx κ a0 rest lo st') (Q:=fun r st'=>r=(none,())∧RS kx κ a0 rest lo st') ?_ (fun _ _ z=>z) ⟨rfl,R⟩) fun r st' z=>z.1▸h st' z.2
 rintro y r st4 - hy ⟨rfl,R4⟩
 refine wpS_bind (wpS_get ?_)
 by_cases hs:(pendingOf st4).size>1
 ·obtain⟨u,eu⟩:∃u,(pendingOf st4)[(pendingOf st4).size - 2]?=some u:=⟨_,Array.getElem?_eq_getElem (by exact Y3u hs)⟩
  rw[if_pos hs,eu]
  refine Z3 (fun _=>wpS_pure ⟨rfl,R4⟩) fun _=>wpS_bind (Z1f c hG R4 (by exact Y3v hs) fun st5 R5 _=>wpS_pure ⟨rfl,R5⟩)
 ·rw[if_neg hs]
  exact wpS_pure ⟨rfl,R4⟩
theorem RS.push{n:Nat} {run rest':List Keyed} (h:RS kx κ a0 (run++rest') lo st) (hl:run.length=n) (h1:1≤n) (hs:SrtL kx run):RS kx κ a0 rest' (lo+n) (setPending st ((pendingOf st).push (lo,n,0))):=by
 obtain⟨rs,e1,e2,T⟩:=h.tile
 refine⟨h.kind,h.failed,h.perm,rs++[run],?_,?_,?_⟩
 ·show(arrOf st).toList=_
  rw[e1,List.flatten_append,List.append_assoc,List.flatten_cons,List.flatten_nil,List.append_nil]
 ·rw[List.flatten_append,List.length_append,e2,List.flatten_cons,List.flatten_nil,List.append_nil,hl]
 ·show Tile kx 0 (((pendingOf st).push (lo,n,0)).toList.map pr2) _
  rw[Array.toList_push,List.map_append]
  refine Tile.join T ?_
  rw[Nat.zero_add,e2]
  exact⟨rfl,hl,h1,hs,trivial⟩
theorem Z4r(c:Ask (model prog w) A E s κ G kx) {N n:Nat} {run rest':List Keyed} {Q:ForInStep (Option Unit×Nat)->SortSt->Prop} (hG:∀x∈a0,G x) (R:RS kx κ a0 (run++rest') lo st) (hl:run.length=n) (h1:1≤n) (hs:SrtL kx run) (h:∀st',RS kx κ a0 rest' (lo+n) st'->Q (.yield (none,lo+n)) st'):wpS (model prog w) A E s (Z1S N lo n) Q st:=by
 have push:∀st,RS kx κ a0 (run++rest') lo st->wpS (model prog w) A E s (Z2O lo n) Q st:=fun st R=>wpS_bind (wpS_modify (wpS_pure (h _ (R.push hl h1 hs))))
 refine wpS_bind (wpS_get ?_)
 cases (pendingOf st).back? with
 | none=>exact push st R
 | some t=>exact wpS_bind (Z3N c hG R fun st' R'=>wpS_bind (wpS_modify (push _ (R'.power fun _=>rfl))))
theorem RS.cut{N n:Nat} {st3:SortSt} (R:RS kx κ a0 rest lo st) (sz:(arrOf st).size=N) (B3:SB st lo st3) (n2:lo+n≤N) (S3:SSeg kx (arrOf st3) lo n):∃run rest',run.length=n∧SrtL kx run∧lo+n+rest'.length=N∧RS kx κ a0 (run++rest') lo st3:=by
 revert κ kx a0 rest lo st N n st3;k_extra "e9";intro κ kx a0 rest lo st N n st3 R sz B3 n2 S3
 obtain⟨rs,e1,e2,T⟩:=R.tile
 have sz3:(arrOf st3).toList.length=N:=by rw[Array.length_toList,B3.size,sz]
 have tk:(arrOf st3).toList.take lo=rs.flatten:=by
  have:(arrOf st).toList.take lo=rs.flatten:=by rw[e1,←e2,List.take_append_of_le_length (Nat.le_refl _),List.take_length]
  rw[←this]
  refine List.ext_getElem? fun i=>?_
  by_cases hi:i<lo
  ·rw[List.getElem?_take_of_lt hi,List.getElem?_take_of_lt hi,Array.getElem?_toList,Array.getElem?_toList]
   exact B3.keep i hi
  ·rw[List.getElem?_eq_none (by simp;exact Y3i hi),List.getElem?_eq_none (by simp;exact Y3i hi)]
 refine⟨((arrOf st3).toList.drop lo).take n,((arrOf st3).toList.drop lo).drop n,by rw[List.length_take,List.length_drop];exact Y3j n2 sz3,?_,by rw[List.length_drop,List.length_drop];exact Y3k n2 sz3,⟨B3.kind.trans R.kind,B3.failed.trans R.failed,B3.perm.trans R.perm,rs,?_,e2,by rw[B3.pend];exact T⟩⟩
 ·unfold SrtL
  rw[List.pairwise_iff_getElem]
  intro i j hi hj hij
  have hj':j<n:=by rw[List.length_take]at hj;exact Y3l hj
  have:=S3 (lo+i) (lo+j) (by exact Y17) (by exact Y3m hij) (by exact Y11 hj')
  have g:∀k (hk:k<(((arrOf st3).toList.drop lo).take n).length),ka kx (arrOf st3) (lo+k)=kx (((arrOf st3).toList.drop lo).take n)[k]:=fun k hk=>by
   have hk':k<n:=by rw[List.length_take]at hk;exact Y3l hk
   have e:=Z10 (arrOf st3) lo n k hk'
   rw[List.getElem?_eq_getElem hk]at e
   unfold ka
   rw[←e];rfl
  rw[g i hi,g j hj]at this
  exact this
 ·rw[List.take_append_drop,←tk,List.take_append_drop]
noncomputable def SrI (kx:Keyed->Int) (κ:SortKind) (a0:List Keyed) (N x:Nat) (r:Option Unit×Nat) (st':SortSt):Prop:=∃lo rest,r=(none,lo)∧x≤lo∧lo≤N∧lo+rest.length=N∧RS kx κ a0 rest lo st'
theorem Z4s{N mr x:Nat} {r:Option Unit×Nat} {Q:ForInStep (Option Unit×Nat)->SortSt->Prop} (c:Ask (model prog w) A E s κ G kx) (hG:∀x∈a0,G x) (ha:a0.length=N) (I:SrI kx κ a0 N x r st) (hd:∀st',RS kx κ a0 [] N st'->Q (.done (none,N)) st') (hy:∀r' st',SrI kx κ a0 N (x+1) r' st'->Q (.yield r') st'):wpS (model prog w) A E s (Z4p N mr r) Q st:=by
 revert prog w A E s κ G kx a0 st N mr x r Q;k_extra "e15";intro prog w A E s κ G kx a0 st N mr x r Q c hG ha I hd hy
 obtain⟨lo,rest,rfl,q1,q2,q3,R⟩:=I
 refine Z3 (fun hge=>?_) fun hge=>?_
 ·obtain rfl:rest=[]:=List.length_eq_zero_iff.mp (by exact Y3f q3 hge)
  obtain rfl:lo=N:=by exact YO q2 hge
  exact wpS_pure (hd _ R)
 have sz1:(arrOf st).size=N:=by
  have:=R.perm.length_eq
  rw[ha]at this
  simpa using this
 have hG1:∀x∈(arrOf st).toList,G x:=fun x hx=>hG x (R.perm.mem_iff.mp hx)
 have tail:∀(n:Nat) (st3:SortSt),SB st lo st3->1≤n->lo+n≤N->SSeg kx (arrOf st3) lo n->wpS (model prog w) A E s (Z1S N lo n) Q st3:=fun n st3 B3 n1 n2 S3=>by
  obtain⟨run,rest',l1,s1,l2,R3⟩:=R.cut sz1 B3 n2 S3
  exact Z4r c hG R3 l1 n1 s1 fun st' R'=>hy _ _ ⟨lo+n,rest',rfl,by exact Y3n q1 n1,n2,by exact Y3o l2,R'⟩
 refine wpS_bind (Z4o c (st0:=st) (lo:=lo) SB.refl R.kind hG1 (by exact Y3g hge sz1) (by exact Y3h hge) fun m st2 B2 m1 m2 S2=>Z3 (fun hm=>?_) fun hm=>tail m st2 B2 m1 (by exact Y3t m1 m2) S2)
 refine wpS_bind (wpS_lift (wpAny_rule ⟨rfl,wpS_bind (Z5x c B2 R.kind hG1 (by exact Y3p sz1 m1 m2) m1 (by exact Y3q m2 hm) S2 fun st3 B3 S3=>?_)⟩))
 have n1:1≤min (N-lo) mr:=by exact Y3r m1 m2 hm
 exact tail (min (N-lo) mr) st3 B3 n1 (by exact Y3s n1) S3
theorem Z5y{p:Array (Nat×Nat×Nat)} (q:¬p.size≤1):srAt p+1<p.size:=Nat.lt_of_le_of_lt (Nat.succ_le_succ (Z5X (n:=p.size-2) (by exact Y3y) (by exact Y3z))) (by exact Y3A q)
theorem Z4t(c:Ask (model prog w) A E s κ G kx) {N:Nat} {Q:Option Unit×Unit->SortSt->Prop} (hG:∀x∈a0,G x) (R:RS kx κ a0 [] N st) (h:∀st',RS kx κ a0 [] N st'->(pendingOf st').size≤1->Q (none,()) st'):wpS (model prog w) A E s (Z4q N) Q st:=by
 refine wpS_mono (wpS_forRange (I:=fun x r st'=>r=(none,())∧RS kx κ a0 [] N st'∧(pendingOf st').size≤max 1 (N-x)) (Q:=fun r st'=>r=(none,())∧RS kx κ a0 [] N st'∧(pendingOf st').size≤1) ?_ ?_ ⟨rfl,R,?_⟩) fun r st' z=>z.1▸h st' z.2.1 z.2.2
 ·rintro x r st1 - hx ⟨rfl,R1,hl⟩
  exact wpS_bind (wpS_get (Z3 (fun q=>wpS_pure ⟨rfl,R1,q⟩) fun q=>wpS_bind (Z1f c hG R1 (Z5y q) fun st2 R2 hl2=>wpS_pure ⟨rfl,R2,by exact Y3B hl hl2⟩)))
 ·rintro r st1 ⟨rfl,R1,hl⟩
  exact⟨rfl,R1,by exact Y3C hl⟩
 ·obtain⟨rs,e1,e2,T⟩:=R.tile
  have:=T.len
  simp at this
  rw[List.length_flatten]at e2
  exact Y3D e2 this
theorem Tile.one:∀{ps:List (Nat×Nat)} {rs:List (List Keyed)},Tile kx 0 ps rs->ps.length≤1->SrtL kx rs.flatten
 | [],[],_,_=>List.Pairwise.nil
 | [p],[r],T,_=>by rw[List.flatten_cons];simpa using T.2.2.2.1
 | [p],r::r2::rs,T,_=>T.2.2.2.2.elim
 | [],_::_,T,_=>T.elim
 | [p],[],T,_=>T.elim
 | p::q::ps,_,_,h=>absurd (Nat.le_of_succ_le_succ h) (Nat.not_succ_le_zero _)
theorem Z3O(c:Ask (model prog w) A E s κ G kx) {st:SortSt} {Q:Unit->SortSt->Prop} (hk:kindOf st=κ) (hf:failedOf st=none) (hp:pendingOf st=#[]) (hG:∀x∈(arrOf st).toList,G x) (h2:2≤(arrOf st).size)
  (h:∀st',(arrOf st').toList.Perm (arrOf st).toList->failedOf st'=none->SrtL kx (arrOf st').toList->Q () st'):wpS (model prog w) A E s sortRuns' Q st:=by
 rw[Z28]
 refine wpS_bind (wpS_get (wpS_bind (wpS_mono (wpS_forRange (I:=SrI kx κ (arrOf st).toList (arrOf st).size) (Q:=fun r st'=>r=(none,(arrOf st).size)∧RS kx κ (arrOf st).toList [] (arrOf st).size st') ?_ ?_ ⟨0,(arrOf st).toList,rfl,Nat.le_refl _,Nat.zero_le _,by rw[Nat.zero_add];rfl,⟨hk,hf,.refl _,[],rfl,rfl,by rw[hp];trivial⟩⟩) ?_)))
 ·intro x r st1 _ hx I
  exact Z4s c hG rfl I (fun st' R=>⟨rfl,R⟩) fun r' st' I=>I
 ·rintro r st' ⟨lo,rest,rfl,q1,q2,q3,R⟩
  obtain rfl:rest=[]:=List.length_eq_zero_iff.mp (by exact Y3w q1 q3)
  obtain rfl:lo=(arrOf st).size:=by exact Y3x q1 q3
  exact⟨rfl,R⟩
 ·rintro r st' ⟨rfl,R⟩
  refine wpS_bind (Z4t c hG R fun st1 R1 hl=>wpS_pure (h st1 R1.perm R1.failed ?_))
  obtain⟨rs,e1,e2,T⟩:=R1.tile
  rw[e1,List.append_nil]
  exact T.one (by rw[List.length_map];exact hl)
end
open PySem.W PySem.SeqAt
section
variable {prog:Program} {w:World} {A:Around} {E:pS} {s:Shared}
theorem Z2P:∀vs:List Value,List.zip vs.toArray.toList vs.toArray.toList=vs.map fun v=>(v,v)
 | []=>rfl
 | v::vs=>by
  have:=Z2P vs
  simp only[List.toList_toArray]at this ⊢
  rw[List.zip_cons_cons,List.map_cons,this]
theorem Z1T{α:Type} [BEq α] [LawfulBEq α] (f:α->Bool) (p:α) (hf:f p=true):∀{ps:List α},p∈ps->(ps.countP fun r=>f r&&!(r==p))<ps.countP f
 | r::ps,hp=>by
  rw[List.countP_cons,List.countP_cons]
  have mono:(ps.countP fun r=>f r&&!(r==p))≤ps.countP f:=List.countP_mono_left fun r _ z=>(Bool.and_eq_true_iff.mp z).1
  by_cases e:r=p
  ·subst e
   simp[hf];exact Y3E mono
  ·have hp':p∈ps:=by
    rcases List.mem_cons.mp hp with z|z
    ·exact absurd z.symm e
    ·exact z
   have:=Z1T f p hf hp'
   have e2:(r==p)=false:=by simpa using e
   rw[e2]
   simp only[Bool.not_false,Bool.and_true]
   exact Y3F this
theorem Z5Y{κ:SortKind} {Gv:Value->Prop} {kv:Value->Int} (h:∀(x y:Value) (C:Bool->Shared->Prop),Gv x->Gv y->C (decide (kv x<kv y)) s->wpAny (model prog w) A (keyLt' κ x y) C (fun _ _=>False) s) :
  Ask (model prog w) A E s κ (fun x=>Gv x.1∧x.1=x.2) (fun x=>kv x.1):=by
 refine⟨fun x y st Q hx hy hk hq=>?_⟩
 rw[lt'_eq]
 refine wpS_bind (wpS_get ?_)
 rw[hk]
 refine wpS_bind (wpS_lift (wpAny_attempt (wpAny_mono (h x.1 y.1 (fun b s'=>s'=s∧b=decide (kv x.1<kv y.1)) hx.1 hy.1 ⟨rfl,rfl⟩) ?_ fun _ _ z=>z.elim)))
 rintro b s' ⟨rfl,rfl⟩
 exact⟨rfl,wpS_pure hq⟩
theorem Z3P{a:Addr} {vs:List Value} {n:Nat} {kv:Value->Int} {Gv:Value->Prop} {P:PySem.Fin->Shared->Prop} (ho:s.heap.get? a=some (seqObj "list" vs.toArray n)) (hz:vs.length≤100000) (hGv:∀v∈vs,Gv v) (hk:∀h':Heap,2≤vs.length->(∀b o,b≠a->s.heap.get? b=some o->h'.get? b=some o)->∃κ,(∀Q:SortKind->Shared->Prop,Q κ { s with heap:=h' }->wpAny (model prog w) A (keyKind' vs.toArray) Q E { s with heap:=h' })∧
   ∀(x y:Value) (C:Bool->Shared->Prop),Gv x->Gv y->C (decide (kv x<kv y)) { s with heap:=h' }->wpAny (model prog w) A (keyLt' κ x y) C (fun _ _=>False) { s with heap:=h' }) (h:∀(h':Heap) (out:List Value),(∀b o,b≠a->s.heap.get? b=some o->h'.get? b=some o)->h'.PlainList a out.toArray->out.Perm vs->out.Pairwise (fun x y=>kv x≤kv y)->P (.done (.ret .none)) { s with heap:=h' }) :
  wpAny (model prog w) A (Builtin.«list.sort» ⟨[.ref a],[]⟩) P E s:=by
 revert prog w A E s a vs n kv Gv P;k_extra "e11";intro prog w A E s a vs n kv Gv P ho hz hGv hk h
 rw[list_sort_plain]
 refine wpAny_bind (listItems_at ho rfl ?_)
 refine wpAny_bind (listUpdate_at ho rfl ?_ (by rw[List.size_toArray,sizeLine_eq];exact Y3G hz) (Nat.zero_le _))
 obtain⟨e1,ho1⟩:∃e1,(s.heap.update a (Obj.mapSeq fun _=>(#[]:Array Value))).get? a=some (seqObj "list" #[] e1):=⟨_,get?_update_seq ho fun _=>#[]⟩
 refine wpAny_bind (seqEpoch_at ho1 rfl ?_)
 refine wpAny_bind (wpAny_newTuple ?_ (by show vs.length≤_;rw[sizeLine_eq];exact Y3G hz))
 refine wpAny_bind (wpAny_newList ?_ (Nat.zero_le _))
 refine wpAny_holding ?_
 generalize hH:((s.heap.update a (Obj.mapSeq fun _=>(#[]:Array Value))).push (seqObj "tuple" vs.toArray 0)).push (seqObj "list" #[] 0)=H
 have hHa:H.get? a=some (seqObj "list" #[] e1):=by rw[←hH];exact Heap.get?_push_of_some _ (Heap.get?_push_of_some _ ho1)
 have hHk:∀b o,b≠a->s.heap.get? b=some o->H.get? b=some o:=fun b o q e=>by
  rw[←hH];exact Heap.get?_push_of_some _ (Heap.get?_push_of_some _ ((Heap.get?_update_other _ _ (Ne.symm q)).trans e))
 show wpAny (model prog w) A _ P E { s with heap:=H }
 dsimp only
 have fin:∀(out:List Value) (out':Array Value),out'=out.toArray->out.Perm vs->out.Pairwise (fun x y=>kv x≤kv y)->P (.done (.ret .none)) { s with heap:=H.update a (Obj.mapSeq fun _=>out') }:=fun out out' e hp hs=>by
  subst e
  refine h _ out (fun b o q e=>(Heap.get?_update_other _ _ (Ne.symm q)).trans (hHk b o q e)) ⟨_,get?_update_seq hHa fun _=>_⟩ hp hs
 have hzip:(vs.toArray.zip vs.toArray).toList=vs.map fun v=>(v,v):=by
  rw[Array.toList_zip]
  exact Z2P vs
 by_cases h2:vs.toArray.size<2
 ·rw[if_pos h2,if_pos h2]
  rw[List.size_toArray]at h2
  refine wpAny_bind (wpAny_pure ?_)
  rw[StateT.run_pure]
  refine wpAny_bind (wpAny_pure ?_)
  dsimp only
  refine wpAny_bind (seqEpoch_at hHa rfl ?_)
  have e:(arrOf (SortSt.mk' general' (vs.toArray.zip vs.toArray) #[] 7 none)).map (·.2)=vs.toArray:=by
   show(vs.toArray.zip vs.toArray).map (·.2)=vs.toArray
   apply Array.toList_inj.mp
   simp[List.map_snd_zip]
  refine wpAny_bind (listUpdate_at hHa rfl ?_ (Nat.zero_le _) (by rw[e,List.size_toArray,sizeLine_eq];exact Y3H h2))
  simp only[bne_self_eq_false,Bool.false_eq_true,if_false]
  refine wpAny_pure (fin vs _ e (List.Perm.refl _) ?_)
  match vs,h2 with
  | [],_=>exact .nil
  | [v],_=>exact .cons (fun _ q=>(nomatch q)) .nil
  | _::_::_,h2=>simp at h2;exact Y3I h2
 ·rw[if_neg h2,if_neg h2]
  rw[List.size_toArray]at h2
  obtain⟨κ,k1,k2⟩:=hk H (by exact Y3J h2) hHk
  refine wpAny_bind (k1 _ ?_)
  have run:=Z3O (E:=E) (Z5Y (s:={ s with heap:=H }) k2) (st:=SortSt.mk' κ (vs.toArray.zip vs.toArray) #[] 7 none) (Q:=fun _ st'=>(arrOf st').toList.Perm (vs.map fun v=>(v,v))∧failedOf st'=none∧SrtL (fun x=>kv x.1) (arrOf st').toList) rfl rfl rfl
   (fun x hx=>by
    have hx':x∈vs.map fun v=>(v,v):=by rw[←hzip];exact hx
    obtain⟨v,hv,rfl⟩:=List.mem_map.mp hx'
    exact⟨hGv v hv,rfl⟩)
   (by show 2≤(vs.toArray.zip vs.toArray).size;simp;exact Y3J h2) (fun st' a1 a2 a3=>⟨by rw[←hzip];exact a1,a2,a3⟩)
  refine wpAny_bind (wpAny_mono run ?_ fun _ _ e=>e)
  rintro⟨⟨⟩,st'⟩ s' ⟨rfl,hp,hf,hs⟩
  dsimp only at hp hf hs ⊢
  have same:∀x∈(arrOf st').toList,x.1=x.2:=fun x hx=>by
   obtain⟨v,_,rfl⟩:=List.mem_map.mp (hp.mem_iff.mp hx)
   rfl
  have p2:((arrOf st').toList.map (·.2)).Perm vs:=by
   have:=hp.map (·.2)
   rw[List.map_map]at this
   have e:(((fun x:Value×Value=>x.2)∘fun v=>(v,v)):Value->Value)=id:=rfl
   rw[e,List.map_id]at this
   exact this
  have s2:((arrOf st').toList.map (·.2)).Pairwise (fun x y=>kv x≤kv y):=by
   rw[List.pairwise_map]
   exact hs.imp_of_mem fun{x y} hx hy z=>by rw[←same x hx,←same y hy];exact z
  have eo:(arrOf st').map (·.2)=((arrOf st').toList.map (·.2)).toArray:=by
   apply Array.toList_inj.mp;simp
  rw[eo]
  refine wpAny_bind (seqEpoch_at hHa rfl ?_)
  refine wpAny_bind (listUpdate_at hHa rfl ?_ (Nat.zero_le _) (by have:=p2.length_eq;rw[List.size_toArray,this,sizeLine_eq];exact Y3K hz))
  rw[hf]
  simp only[bne_self_eq_false,Bool.false_eq_true,if_false]
  exact wpAny_pure (fin _ _ rfl p2 s2)
theorem Z1y{l:Addr} {vs:List Value} {kv:Value->Int} {Gv:Value->Prop} {Q:pS} (hl:s.heap.IsList l vs.toArray) (hz:vs.length≤100000) (hGv:∀v∈vs,Gv v) (hk:∀h':Heap,2≤vs.length->(∀b o,s.heap.get? b=some o->h'.get? b=some o)->∃κ,(∀(Q:SortKind->Shared->Prop) (E:pS),Q κ { s with heap:=h' }->wpAny (model prog w) A.in1.in1 (keyKind' vs.toArray) Q E { s with heap:=h' })∧
   ∀(x y:Value) (C:Bool->Shared->Prop),Gv x->Gv y->C (decide (kv x<kv y)) { s with heap:=h' }->wpAny (model prog w) A.in1.in1 (keyLt' κ x y) C (fun _ _=>False) { s with heap:=h' }) (h:∀(h':Heap) (a:Addr) (out:List Value),s.heap.objs.size≤a->(∀b o,s.heap.get? b=some o->h'.get? b=some o)->h'.PlainList a out.toArray->out.Perm vs->out.Pairwise (fun x y=>kv x≤kv y)->Q (.ref a) { s with heap:=h' }) :
  wpAny (model prog w) A (call (.builtin "sorted") [.ref l]) Q E s:=by
 revert prog w A E s l vs kv Gv Q;k_extra "e10";intro prog w A E s l vs kv Gv Q hl hz hGv hk h
 refine Calls.call_function_entry kind_sorted plain_sorted entry_sorted (args_sorted1 _) ?_
 unfold Builtin.«sorted»
 refine wpAny_bind (m:=checkCount "sorted" 1 1 _) (wpAny_pure ?_)
 refine wpAny_bind (collect_list hl ?_ (by rw[sizeLine_eq];exact Y3G hz))
 refine wpAny_bind (wpAny_newList ?_ (by rw[sizeLine_eq];exact Y3G hz))
 have hsz:((s.heap.push (seqObj "list" #[] 0)).update s.heap.objs.size (Obj.mapSeq (·++vs.toArray))).objs.size=s.heap.objs.size+1:=by
  rw[Heap.size_update,size_push']
 generalize hH:((s.heap.push (seqObj "list" #[] 0)).update s.heap.objs.size (Obj.mapSeq (·++vs.toArray))).push (seqObj "list" vs.toArray 0)=H
 have hoL:H.get? (s.heap.objs.size+1)=some (seqObj "list" vs.toArray 0):=by
  rw[←hH,←hsz];exact Heap.get?_push_size _ rfl
 have keep:∀b o,s.heap.get? b=some o->H.get? b=some o:=fun b o q=>by
  have hlt:b<s.heap.objs.size:=Heap.lt_size q
  rw[←hH,Heap.get?_push_ne _ _ _ (by rw[hsz];exact Nat.ne_of_lt (Nat.lt_succ_of_lt hlt)),Heap.get?_update_ne _ _ _ _ (Nat.ne_of_lt hlt),Heap.get?_push_ne _ _ _ (Nat.ne_of_lt hlt)]
  exact q
 have old:∀b o,s.heap.get? b=some o->b≠s.heap.objs.size+1:=fun b o e=>Nat.ne_of_lt (Nat.lt_succ_of_lt (Heap.lt_size e))
 show wpAny _ _ _ _ _ { s with heap:=H }
 rw[hsz]
 refine wpAny_bind (wpAny_holding (wpAny_call_entry slot_list_sort ⟨_,hoL,rfl⟩ entry_list_sort (Z3P (s:={ s with heap:=H }) (kv:=kv) hoL hz hGv (fun h' h2 kp=>?_) fun h' out kp pl hp hs=>⟨_,rfl,?_⟩) (args_list_sort _)))
 ·obtain⟨κ,k1,k2⟩:=hk h' h2 fun b o e=>kp b o (old b o e) (keep b o e)
  exact⟨κ,fun Q q=>k1 Q _ q,k2⟩
 ·exact wpAny_pure ⟨_,rfl,h h' _ out (Nat.le_succ _) (fun b o e=>kp b o (old b o e) (keep b o e)) pl hp hs⟩
end
noncomputable def Z1U (ps:List (Int×Int)) (p:Int×Int):Int:=((ps.countP fun q=>lexlt q p:Nat):Int)
theorem Z3r{ps:List (Int×Int)} {p q:Int×Int} (hp:p∈ps) (hq:q∈ps):decide (Z1U ps p<Z1U ps q)=lexlt p q:=by
 have tr:∀a b c,lexlt a b=true->lexlt b c=true->lexlt a c=true:=fun a b c h1 h2=>by
  rw[lexlt_iff]at *;exact Y3L h1 h2
 have tr2:∀a b c,lexlt a b=true->lexlt c b=false->lexlt a c=true:=fun a b c h1 h2=>by
  rw[lexlt_iff]at *;rw[lexlt_false]at h2;exact Y3M h1 h2
 cases h:lexlt p q with
 | true=>
  rw[decide_eq_true_eq]
  unfold Z1U
  have hle:ps.countP (fun r=>lexlt r p)≤ps.countP fun r=>lexlt r q&&!(r==p):=by
   refine List.countP_mono_left fun r hr z=>?_
   have:lexlt p p=false:=by rw[lexlt_false];exact Y3N
   have hne:r≠p:=fun e=>by rw[e,this]at z;cases z
   simp[tr r p q z h,hne]
  have hlt:=Z1T (fun r=>lexlt r q) p h hp
  exact Y3O hle hlt
 | false=>
  rw[decide_eq_false_iff_not]
  unfold Z1U
  have:(ps.countP fun r=>lexlt r q)≤ps.countP fun r=>lexlt r p:=List.countP_mono_left fun r _ z=>tr2 r q p z h
  exact Y3P this
open Classical in
noncomputable def Zo (h:Heap) (v:Value):Int×Int:=if q:∃p,VR h v (pv p) then Classical.choose q else(0,0)
theorem PairAt.unique{h:Heap} {v:Value} {p q:Int×Int} (r1:VR h v (pv p)) (r2:VR h v (pv q)):p=q:=by
 revert h v p q;k_extra "e4";intro h v p q r1 r2
 obtain⟨a,t,u,n,rfl,e⟩:=r1.pv_at
 obtain⟨a',t',u',n',e0,e'⟩:=r2.pv_at
 cases e0
 rw[e]at e'
 have e2:=congrArg Obj.data (Option.some.inj e')
 simp only[Data.seq.injEq,Array.mk.injEq,List.cons.injEq,Value.int.injEq]at e2
 exact Prod.ext e2.1.1.1 e2.1.2.1.1
theorem Z4u{h:Heap} {v:Value} {p:Int×Int} (r:VR h v (pv p)):Zo h v=p:=by
 have q:∃p,VR h v (pv p):=⟨p,r⟩
 unfold Zo
 rw[dif_pos q]
 exact PairAt.unique (Classical.choose_spec q) r
theorem VRs.pairs{h:Heap}:∀{ps:List (Int×Int)} {vs:List Value},VRs h vs (ps.map pv)->vs.map (Zo h)=ps∧∀v∈vs,VR h v (pv (Zo h v))
 | [],vs,r=>by obtain rfl:=r.nilI;exact⟨rfl,fun _ z=>by cases z⟩
 | p::ps,vs,r=>by
  obtain⟨v,vs,rfl,r1,r2⟩:=r.consI
  obtain⟨e,f⟩:=VRs.pairs r2
  have e1:=Z4u r1
  refine⟨by rw[List.map_cons,e1,e],fun u hu=>?_⟩
  rcases List.mem_cons.mp hu with rfl|hu
  ·rw[e1];exact r1
  ·exact f u hu
theorem VRs.of_all{h:Heap} {f:Value->V}:∀{vs:List Value},(∀v∈vs,VR h v (f v))->VRs h vs (vs.map f)
 | [],_=>.nil
 | v::vs,r=>.cons (r v (.head _)) (VRs.of_all fun u hu=>r u (.tail _ hu))
section
variable {C:Cx} {A:Around} {σ:Store} {X:XP} {s:Shared}
theorem CallWP.sortedPairs2{l:Addr} {ps:List (Int×Int)} {Q:pV} (hl:LstAt C σ l (ps.map pv)) (hz:ps.length≤100000)
  (h:∀(a:Addr) (ps':List (Int×Int)),σ a=none->ps'.Perm ps->ps'.Pairwise (fun p q=>lexlt q p=false)->Q (.ref a) (σ.upd a (.list (ps'.map pv)))):CallWP C A (.builtin "sorted") [.ref l] σ Q X:=by
 intro s vs S r
 obtain⟨_,rfl,r1⟩:=r.one
 obtain rfl:=r1.refI
 obtain⟨⟨vs⟩,il,rl⟩:=hl.raw S
 simp only at rl
 have el:=rl.length
 rw[List.length_map]at el
 obtain⟨e1,e2⟩:=VRs.pairs rl
 have mem:∀v∈vs,Zo s.heap v∈ps:=fun v hv=>by rw[←e1];exact List.mem_map_of_mem hv
 refine Z1y (kv:=fun v=>Z1U ps (Zo s.heap v)) (Gv:=fun v=>v∈vs) il (by exact Y3Q hz el) (fun v hv=>hv) (fun h' h2 kp=>?_) fun h' a out ha kp pl hp hs=>?_
 ·have mv:∀v∈vs,VR h' v (pv (Zo s.heap v)):=fun v hv=>(e2 v hv).mono fun _ _ _ e=>kp _ _ e
  refine⟨tuples' true,fun Q E q=>?_,fun x y K hx hy hC=>?_⟩
  ·obtain⟨fs,k,lf,f⟩:=Z3g (rl.mono fun _ _ _ e=>kp _ _ e)
   exact kat_kind (s:={ s with heap:=h' }) (T:=.type "int") k (by exact Y3R el h2 lf) (fun v hv=>by obtain⟨i,t,rfl⟩:=f v hv;exact .now) (by decide) q
  ·rw[Z3r (mem x hx) (mem y hy)]at hC
   exact Z4P (s:={ s with heap:=h' }) (h:=h') (b:=true) (mv x hx).pv_at (mv y hy).pv_at hC
 ·have S':St C σ { s with heap:=h',toks:=s.toks }:=S.ext kp
  have mo:∀v∈out,v∈vs:=fun v hv=>hp.mem_iff.mp hv
  have rr:VRs h' out ((out.map (Zo s.heap)).map pv):=by
   rw[List.map_map]
   exact VRs.of_all fun v hv=>(e2 v (mo v hv)).mono fun _ _ _ e=>kp _ _ e
  obtain⟨S2,e3⟩:=S'.adopt (a:=a) (o:=.list ((out.map (Zo s.heap)).map pv)) (σ0:=σ) (h0:=s.heap) ⟨_,pl,by simpa using rr⟩ (Nat.le_trans S.size ha) (.ext kp) (get?_fresh' ha)
  refine⟨.ref _,_,h a (out.map (Zo s.heap)) (S.fresh' ha) ?_ ?_,.ref _,S2,e3⟩
  ·have:=hp.map (Zo s.heap)
   rw[e1]at this;exact this
  ·rw[List.pairwise_map]
   refine hs.imp_of_mem fun{x y} hx hy z=>?_
   rw[←Z3r (mem y (mo y hy)) (mem x (mo x hx)),decide_eq_false_iff_not]
   exact Y3S z
noncomputable def numV:Value->Int
 | .int i _=>i
 | _=>0
theorem VRs.nums{h:Heap}:∀{ns:List Int} {vs:List Value},VRs h vs (ns.map V.int)->vs.map numV=ns∧∀v∈vs,∃t,v=.int (numV v) t
 | [],vs,r=>by obtain rfl:=r.nilI;exact⟨rfl,fun _ z=>by cases z⟩
 | n::ns,vs,r=>by
  obtain⟨v,vs,rfl,r1,r2⟩:=r.consI
  obtain⟨e,f⟩:=VRs.nums r2
  obtain⟨t,rfl⟩:=r1.intI
  refine⟨by rw[List.map_cons,e];rfl,fun u hu=>?_⟩
  rcases List.mem_cons.mp hu with rfl|hu
  ·exact⟨t,rfl⟩
  ·exact f u hu
theorem CallWP.sortedInts2{l:Addr} {ns:List Int} {Q:pV} (hl:LstAt C σ l (ns.map V.int)) (hz:ns.length≤100000) (h:∀(a:Addr) (ns':List Int),σ a=none->ns'.Perm ns->ns'.Pairwise (fun p q=>p≤q)->Q (.ref a) (σ.upd a (.list (ns'.map V.int)))):CallWP C A (.builtin "sorted") [.ref l] σ Q X:=by
 revert C A σ X l ns Q;k_extra "e7";intro C A σ X l ns Q hl hz h
 intro s vs S r
 obtain⟨_,rfl,r1⟩:=r.one
 obtain rfl:=r1.refI
 obtain⟨⟨vs⟩,il,rl⟩:=hl.raw S
 simp only at rl
 have el:=rl.length
 rw[List.length_map]at el
 obtain⟨e1,e2⟩:=VRs.nums rl
 refine Z1y (kv:=numV) (Gv:=fun v=>v∈vs) il (by exact Y3Q hz el) (fun v hv=>hv) (fun h' h2 kp=>?_) fun h' a out ha kp pl hp hs=>?_
 ·refine⟨oneType',fun Q E q=>?_,fun x y K hx hy hC=>?_⟩
  ·exact kas_kind (s:={ s with heap:=h' }) (T:=.type "int") h2 (fun v hv=>by obtain⟨t,e⟩:=e2 v hv;rw[e];exact .now) (by decide) (by decide) q
  ·obtain⟨t,ex⟩:=e2 x hx
   obtain⟨t',ey⟩:=e2 y hy
   rw[ex,ey]
   rw[ex,ey]at hC
   exact oneLt_int hC
 ·have S':St C σ { s with heap:=h',toks:=s.toks }:=S.ext kp
  have mo:∀v∈out,v∈vs:=fun v hv=>hp.mem_iff.mp hv
  have rr:VRs h' out ((out.map numV).map V.int):=by
   rw[List.map_map]
   exact VRs.of_all fun v hv=>by obtain⟨t,e⟩:=e2 v (mo v hv);rw[e];exact .int _ _
  obtain⟨S2,e3⟩:=S'.adopt (a:=a) (o:=.list ((out.map numV).map V.int)) (σ0:=σ) (h0:=s.heap) ⟨_,pl,by simpa using rr⟩ (Nat.le_trans S.size ha) (.ext kp) (get?_fresh' ha)
  refine⟨.ref _,_,h a (out.map numV) (S.fresh' ha) ?_ ?_,.ref _,S2,e3⟩
  ·have:=hp.map numV
   rw[e1]at this;exact this
  ·rw[List.pairwise_map];exact hs
end
section
variable {C:Cx} {A:Around} {env:Env} {ρ:Rho} {σ:Store} {X:XP} {s:Shared}
end
section
variable {C:Cx} {A:Around} {σ:Store} {X:XP}
end
open Classical in
section
variable {prog:Program} {w:World} {A:Around} {E:pS} {s:Shared}
end
section
variable {C:Cx} {A:Around} {σ:Store} {X:XP} {s:Shared}
end
section
variable {prog:Program} {w:World} {A:Around} {E:pS} {s:Shared}
end
section
variable {C:Cx} {A:Around} {σ:Store} {X:XP} {s:Shared}
end
end Mine
open PySem PySem.W PySem.SeqAt PyProof.Rows
set_option Elab.async false
set_option maxRecDepth 100000
set_option maxHeartbeats 8000000
set_option linter.unusedVariables false
set_option linter.unusedSimpArgs false
namespace Mine
theorem kept:KL=KL∧PySem.Challenge.rw_uf030038_09=PySem.Challenge.rw_uf030038_09:=by
 k_fill
 exact⟨rfl,rfl⟩
variable {C:Cx} {A:Around} {σ:Store} {X:XP}
theorem words:True:=by
 k_with "mK"=>(((with_reducible refine atKL C.K hK ?_);intro P;k_is))
 k_with "mne"=>(exact Z5M (by decide))
 k_with "mget"=>(first  |with_reducible exact Rho.get_hit  |with_reducible exact Rho.gp_hit  |with_reducible assumption  |(focus ((with_reducible apply Rho.get_miss);(focus (k_extra "mne"));(focus (k_extra "mget"))))  |(focus ((with_reducible apply Rho.gp_miss4);(focus (k_extra "mne"));(focus (k_extra "mne"));(focus (k_extra "mne"));(focus (k_extra "mne"));(focus (k_extra "mget"))))  |(focus ((with_reducible apply Rho.gp_miss);(focus (k_extra "mne"));(focus (k_extra "mget")))))
 k_with "mput"=>(first  |with_reducible exact Rho.put_hit  |with_reducible exact Rho.put_nil  |(focus ((with_reducible apply Rho.put_miss);(focus (k_extra "mne"));(focus (k_extra "mput"))))  |with_reducible exact rfl)
 k_with "mcapt"=>(first  |exact Capt.nil  |(focus ((with_reducible apply Capt.take);(focus (k_extra "mget"));(focus (k_extra "mcapt"))))  |(focus ((with_reducible apply Capt.skip);(focus (decide));(focus (k_extra "mcapt")))))
 k_with "mvrs"=>(first  |exact VRs.nil  |(focus ((with_reducible apply VRs.cons);(focus (k_extra "mvr"));(focus (k_extra "mvrs")))))
 k_with "mvr"=>(first|(focus ((with_reducible apply VR.gtup);(focus (k_extra "mK"));(focus (k_extra "mvrs"))))|exact VR.ref _|exact VR.int _ _|exact VR.str _ _|exact VR.typ _|exact VR.blt _|exact VR.bool _|exact VR.none)
 k_with "mname"=>(first  |(focus ((with_reducible apply Ev.nlocF);(focus (kernel_rfl!));(focus (k_extra "mget"));rotate_left;(focus (kernel_rfl))))  |(focus ((with_reducible apply Ev.nglobF);(focus (kernel_rfl!));(focus (k_extra "mK"));(focus (k_extra "mvr"));rotate_left;(focus (kernel_rfl))))  |(focus ((with_reducible apply Ev.nbltF);(focus (kernel_rfl!));(focus (k_extra "mK"));(focus (boot_by_name));(focus (k_extra "mvr"));rotate_left;(focus (decide));(focus (kernel_rfl))))  |(focus ((with_reducible apply Ev.ncelF);(focus (kernel_rfl!));(focus (k_extra "mget"));rotate_left;(focus (kernel_rfl));(focus (kernel_rfl))))  |(focus ((with_reducible apply Ev.nloc);(focus (kernel_rfl!));(focus (k_extra "mget"));rotate_left;(focus (kernel_rfl))))  |(focus ((with_reducible apply Ev.ncel);(focus (kernel_rfl!));(focus (k_extra "mget"));rotate_left;(focus (kernel_rfl));(focus (kernel_rfl))))  |(focus ((with_reducible apply Ev.nfree);(focus (kernel_rfl!));(focus (k_extra "mget"));rotate_left;(focus (kernel_rfl));(focus (kernel_rfl));(focus (kernel_rfl))))  |(focus ((with_reducible apply Ev.nglob);(focus (kernel_rfl!));(focus (k_extra "mK"));(focus (k_extra "mvr"));rotate_left;(focus (kernel_rfl))))  |(focus ((with_reducible apply Ev.nblt);(focus (kernel_rfl!));(focus (k_extra "mK"));(focus (boot_by_name));(focus (k_extra "mvr"));rotate_left;(focus (decide));(focus (kernel_rfl)))))
 k_with "mcomp"=>(first  |(focus ((with_reducible apply Ev.lcomp);(focus (k_extra "mcapt"));(focus (kernel_rfl!));(focus (kernel_rfl!));(focus (rfl));rotate_left;(focus (kernel_rfl));(focus (intro _;kernel_rfl)))))
 k_with "mcompA"=>(first  |(focus ((with_reducible apply Ex.lassign);(focus (k_extra "mcapt"));(focus (kernel_rfl!));(focus (kernel_rfl!));(focus (rfl));(focus (kernel_rfl!));rotate_left;(focus (kernel_rfl));(focus (kernel_rfl));(focus (kernel_rfl));(focus (intro _;kernel_rfl)))))
 k_with "msz"=>(exact Z4J rfl)
 k_with "mnea"=>(first|with_reducible assumption|exact Ne.symm (by with_reducible assumption))
 k_with "mst"=>(first  |with_reducible exact Store.hit  |with_reducible assumption  |(focus ((with_reducible apply Store.miss);(focus (k_extra "mnea"));(focus (k_extra "mst"))))  |(focus ((with_reducible apply Store.at_fresh);(focus (k_extra "mst"));(focus (k_extra "mst"))))  |with_reducible exact LAt.g6 (by with_reducible assumption)  |with_reducible exact LAt.g5 (by with_reducible assumption)  |with_reducible exact LAt.g7 (by with_reducible assumption)  |with_reducible exact LAt.g8 (by with_reducible assumption)  |with_reducible exact LAt.g1 (by with_reducible assumption))
 k_with "mty"=>((focus ((with_reducible refine' TyGo.mk ?_ ?_);(focus (first|exact TyV.str|(focus ((with_reducible apply TyV.list);(focus (k_extra "mst"))))|(focus ((with_reducible apply TyV.id);(focus (k_extra "mst")))))))))
 k_with "mom"=>(first|(first|lia|omega)|(simp only[List.length_map,List.length_append,List.length_reverse,List.length_cons,List.length_nil,sizeLine_eq];(first|lia|omega))|(simp only[List.length_map,List.length_append,List.length_reverse,List.length_cons,List.length_nil,sizeLine_eq]at *;(first|lia|omega))|(simp[sizeLine_eq]at *;(first|lia|omega)))
 k_with "msput"=>(first  |with_reducible exact Z4Q  |with_reducible exact Z4R  |(focus ((with_reducible apply Z46);(focus (k_extra "mne"));(focus (k_extra "msput")))))
 k_with "msget"=>(first  |with_reducible exact Z4K  |with_reducible assumption  |with_reducible exact Z4S  |(focus ((with_reducible apply Z42);(focus (k_extra "mne"));(focus (k_extra "msget")))))
 k_with "mlst"=>(first|(focus ((with_reducible apply LstAt.st);(focus (k_extra "mst"))))|with_reducible assumption)
 k_with "mhasty"=>(first  |exact HasTy.none  |exact HasTy.bool _  |exact HasTy.int _  |exact HasTy.str _  |exact HasTy.tup _  |(focus ((with_reducible apply HasTy.list);(focus (k_extra "mlst"))))  |(focus ((with_reducible apply HasTy.sd);(focus (k_extra "mst"))))  |(focus ((with_reducible apply HasTy.id);(focus (k_extra "mst")))))
 k_with "mhasty"=>(first  |exact HasTy.none  |exact HasTy.bool _  |exact HasTy.int _  |exact HasTy.str _  |exact HasTy.tup _  |(focus ((with_reducible apply HasTy.list);(focus (k_extra "mlst"))))  |(focus ((with_reducible apply HasTy.sd);(focus (k_extra "mst"))))  |(focus ((with_reducible apply HasTy.id);(focus (k_extra "mst")))))
 k_with "masg"=>(first  |(focus ((with_reducible apply Asg.nlocF);(focus (kernel_rfl!));(focus (k_extra "mput"));rotate_left;(focus (kernel_rfl))))  |(focus ((with_reducible apply Asg.ncelF);(focus (kernel_rfl!));(focus (k_extra "mput"));rotate_left;(focus (kernel_rfl))))  |(focus ((with_reducible apply Asg.nloc);(focus (kernel_rfl!));(focus (k_extra "mput"));rotate_left;(focus (kernel_rfl))))  |(focus ((with_reducible apply Asg.ncel);(focus (kernel_rfl!));(focus (k_extra "mput"));rotate_left;(focus (kernel_rfl))))  |(focus ((with_reducible apply Asg.tup);(focus (first|assumption));(focus (rfl));rotate_left;(focus (kernel_rfl));(focus (kernel_rfl))))  |(with_reducible refine Asg.sub ?_)  |(with_reducible refine Asg.attr' ?_))
 k_with "mobj"=>(first  |k_extra "mname"   | ((with_reducible refine Ev.attrS ?_);k_extra "mname";(focus ((with_reducible apply AttrWP.mk);(focus (k_extra "mst"));(focus (k_extra "mst"));(focus (k_extra "msget"));(focus (k_extra "mK"));(focus (k_extra "mK"));(focus (k_extra "mK"));(focus (k_extra "mK"));(focus ((intro _ q;cases q))))))  |((with_reducible refine Ev.sub ?_);k_extra "mname";(with_reducible refine Ev.cstr ?_);(focus ((with_reducible apply ItemWP.sd);(focus (k_extra "mst"));(focus (k_extra "msget"))))))
 k_with "mpop"=>(first  |((focus ((with_reducible refine' Ev.bmethS F.plainAttrs_list F.slot_list_pop F.type_list_pop ?_ ?_ ?_ ?_ ?_);rotate_left;(focus (kernel_rfl));(focus (kernel_rfl));(focus (kernel_rfl));(focus (kernel_rfl))));k_extra "mobj";k_extra "mty")  |((focus ((with_reducible refine' Ev.bmethS F.plainAttrs_dict F.slot_dict_pop F.type_dict_pop ?_ ?_ ?_ ?_ ?_);rotate_left;(focus (kernel_rfl));(focus (kernel_rfl));(focus (kernel_rfl));(focus (kernel_rfl))));k_extra "mobj";k_extra "mty"))
 k_with "mmeth"=>(first  |k_extra "mpop"   | (focus ((with_reducible refine' Ev.bmethS F.plainAttrs_list F.slot_list_append F.type_list_append ?_ ?_ ?_ ?_ ?_);rotate_left;(focus (kernel_rfl));(focus (kernel_rfl));(focus (kernel_rfl));(focus (kernel_rfl))))  |(focus ((with_reducible refine' Ev.bmethS F.plainAttrs_list F.slot_list_remove F.type_list_remove ?_ ?_ ?_ ?_ ?_);rotate_left;(focus (kernel_rfl));(focus (kernel_rfl));(focus (kernel_rfl));(focus (kernel_rfl))))  |(focus ((with_reducible refine' Ev.bmethS F.plainAttrs_list F.slot_list_clear F.type_list_clear ?_ ?_ ?_ ?_ ?_);rotate_left;(focus (kernel_rfl));(focus (kernel_rfl));(focus (kernel_rfl));(focus (kernel_rfl))))  |(focus ((with_reducible refine' Ev.bmethS F.plainAttrs_list F.slot_list_reverse F.type_list_reverse ?_ ?_ ?_ ?_ ?_);rotate_left;(focus (kernel_rfl));(focus (kernel_rfl));(focus (kernel_rfl));(focus (kernel_rfl))))  |(focus ((with_reducible refine' Ev.bmethS F.plainAttrs_str F.slot_str_join F.type_str_join ?_ ?_ ?_ ?_ ?_);rotate_left;(focus (kernel_rfl));(focus (kernel_rfl));(focus (kernel_rfl));(focus (kernel_rfl))))  |(focus ((with_reducible refine' Ev.bmethS F.plainAttrs_list F.slot_list_insert F.type_list_insert ?_ ?_ ?_ ?_ ?_);rotate_left;(focus (kernel_rfl));(focus (kernel_rfl));(focus (kernel_rfl));(focus (kernel_rfl))))  |(focus ((with_reducible refine' Ev.bmethS F.plainAttrs_list F.slot_list_index F.type_list_index ?_ ?_ ?_ ?_ ?_);rotate_left;(focus (kernel_rfl));(focus (kernel_rfl));(focus (kernel_rfl));(focus (kernel_rfl))))  |(focus ((with_reducible refine' Ev.bmethS F.plainAttrs_list F.slot_list_count F.type_list_count ?_ ?_ ?_ ?_ ?_);rotate_left;(focus (kernel_rfl));(focus (kernel_rfl));(focus (kernel_rfl));(focus (kernel_rfl))))  |(focus ((with_reducible refine' Ev.bmethS F.plainAttrs_str F.slot_str_upper F.type_str_upper ?_ ?_ ?_ ?_ ?_);rotate_left;(focus (kernel_rfl));(focus (kernel_rfl));(focus (kernel_rfl));(focus (kernel_rfl))))  |(focus ((with_reducible refine' Ev.bmethS F.plainAttrs_dict F.slot_dict_get F.type_dict_get ?_ ?_ ?_ ?_ ?_);rotate_left;(focus (kernel_rfl));(focus (kernel_rfl));(focus (kernel_rfl));(focus (kernel_rfl)))))
 k_with "mcall"=>(first  |(with_reducible refine Ev.callRT ?_;k_extra "mname";(with_reducible refine CallRK.go ?_ ?_);(focus (k_extra "mK")))  |(with_reducible refine Ev.callBT ?_;k_extra "mname";first|(with_reducible refine CallBK.b ?_)|(with_reducible refine CallBK.t ?_)))
 k_with "mdict"=>((focus ((with_reducible refine Ev.dictS ?_ ?_ ?_ ?_ ?_);(focus rfl);(focus rfl);(focus exact List.cons_ne_nil _ _);(focus decide))))
 k_with "mtyv"=>(first|exact TyV.str|(focus ((with_reducible apply TyV.list);(focus (k_extra "mst"))))|(focus ((with_reducible apply TyV.id);(focus (k_extra "mst")))))
 k_with "mmetp"=>(first  |(with_reducible exact LAt.metP (name:="make") (f:=284) hK (by with_reducible assumption) (by kernel_rfl!) (fun _=>by kernel_rfl!))  |(with_reducible exact LAt.metP (name:="begin") (f:=251) hK (by with_reducible assumption) (by kernel_rfl!) (fun _=>by kernel_rfl!))  |(with_reducible exact LAt.metP (name:="go_on") (f:=258) hK (by with_reducible assumption) (by kernel_rfl!) (fun _=>by kernel_rfl!))  |(with_reducible exact LAt.metP (name:="call_in") (f:=265) hK (by with_reducible assumption) (by kernel_rfl!) (fun _=>by kernel_rfl!))  |(with_reducible exact LAt.metP (name:="send_away") (f:=272) hK (by with_reducible assumption) (by kernel_rfl!) (fun _=>by kernel_rfl!))  |(with_reducible exact LAt.metP (name:="do_deed") (f:=277) hK (by with_reducible assumption) (by kernel_rfl!) (fun _=>by kernel_rfl!))  |(with_reducible exact LAt.metP (name:="step") (f:=244) hK (by with_reducible assumption) (by kernel_rfl!) (fun _=>by kernel_rfl!))  |(with_reducible exact LAt.metP (name:="run") (f:=291) hK (by with_reducible assumption) (by kernel_rfl!) (fun _=>by kernel_rfl!))  |(with_reducible exact LAt.metP (name:="send") (f:=237) hK (by with_reducible assumption) (by kernel_rfl!) (fun _=>by kernel_rfl!))  |(with_reducible exact LAt.metP (name:="waiting") (f:=298) hK (by with_reducible assumption) (by kernel_rfl!) (fun _=>by kernel_rfl!))  |(with_reducible exact LAt.metP (name:="around") (f:=303) hK (by with_reducible assumption) (by kernel_rfl!) (fun _=>by kernel_rfl!))  |(with_reducible exact LAt.metP (name:="standing") (f:=310) hK (by with_reducible assumption) (by kernel_rfl!) (fun _=>by kernel_rfl!))  |(with_reducible exact LAt.metP (name:="idle") (f:=317) hK (by with_reducible assumption) (by kernel_rfl!) (fun _=>by kernel_rfl!))  |(focus ((with_reducible apply MetP.mk);(focus (k_extra "mst"));(focus (k_extra "mst"));(focus (k_extra "msget"));(focus (k_extra "mK"));(focus (k_extra "mK"));(focus (k_extra "mK"));(focus (k_extra "mK")))))
 k_with "matt"=>(first  |with_reducible exact LAt.aLog hK (by with_reducible assumption)  |with_reducible exact LAt.aEvents hK (by with_reducible assumption)  |with_reducible exact LAt.aTime hK (by with_reducible assumption)  |with_reducible exact LAt.aWaits hK (by with_reducible assumption)  |with_reducible exact LAt.aPosts hK (by with_reducible assumption)  |with_reducible exact LAt.aFrames hK (by with_reducible assumption)  |with_reducible exact LAt.aCast hK (by with_reducible assumption)  |(focus ((with_reducible apply AttP.mk);(focus (k_extra "mst"));(focus (k_extra "mst"));(focus (k_extra "msget"));(focus (k_extra "mK"));(focus (k_extra "mK"));(focus (k_extra "mK"));(focus (k_extra "mK"));(focus ((intro _ q;cases q))))))
 k_with "mit"=>(first  |with_reducible exact ItP.tup0  |with_reducible exact ItP.tup1  |with_reducible exact ItP.tup2)
 k_with "mbi"=>(first  |with_reducible exact BiP.add)
 k_with "mcm"=>(first  |with_reducible exact CmP.ne_int  |with_reducible exact CmP.lt_int  |with_reducible exact CmP.gt_int  |with_reducible exact CmP.ge_int  |with_reducible exact CmP.eq_str  |with_reducible exact CmP.ne_str)
 k_with "mpe"=>(first  |(focus ((with_reducible show Pe _ _ _ _ _ (.Name _ _) _);first|(focus ((with_reducible apply Pe.nloc);(focus (kernel_rfl!));(focus (k_extra "mget"));(focus (kernel_rfl))))|(focus ((with_reducible apply Pe.nlocM);(focus (kernel_rfl!));(focus (k_extra "mget"));(focus (kernel_rfl))))|(focus ((with_reducible apply Pe.ncel);(focus (kernel_rfl!));(focus (k_extra "mget"));(focus (kernel_rfl));(focus (kernel_rfl))))|(focus ((with_reducible apply Pe.nglob);(focus (kernel_rfl!));(focus (k_extra "mK"));(focus (k_extra "mvr"));(focus (kernel_rfl))))))  |with_reducible exact Pe.cstr  |with_reducible exact Pe.cint  |with_reducible exact Pe.cnone  |with_reducible exact Pe.cbool  |(focus ((with_reducible show Pe _ _ _ _ _ (.Tuple _ _ _) _);first|(focus ((with_reducible apply Pe.tup);(focus (k_extra "mpes"));(focus (exact Nat.le_of_ble_eq_true rfl))))))  |(focus ((with_reducible show Pe _ _ _ _ _ (.Attribute _ _ _) _);first|(focus ((with_reducible apply Pe.attr);(focus (k_extra "mpe"));(focus (k_extra "matt"));(focus (kernel_rfl))))))  |(focus ((with_reducible show Pe _ _ _ _ _ (.Subscript _ _ _) _);first|(focus ((with_reducible apply Pe.sub);(focus (k_extra "mpe"));(focus (k_extra "mpe"));(focus (k_extra "mit"))))))  |(focus ((with_reducible show Pe _ _ _ _ _ (.BinOp _ _ _ _) _);first|(focus ((with_reducible apply Pe.bin);(focus (k_extra "mpe"));(focus (k_extra "mpe"));(focus (k_extra "mbi"))))))  |(focus ((with_reducible show Pe _ _ _ _ _ (.Compare _ [_] [_] _) _);first|(focus ((with_reducible apply Pe.cmp);(focus (k_extra "mpe"));(focus (k_extra "mpe"));(focus (k_extra "mcm"));(focus (kernel_rfl)))))))
 k_with "mpes"=>(first  |with_reducible exact Pes.nil  |(focus ((with_reducible apply Pes.cons);(focus (k_extra "mpe"));(focus (k_extra "mpes"));(focus (kernel_rfl)))))
 k_with "mtp"=>(first  |(focus ((with_reducible show Tp _ _ _ _ _ (.Compare _ [_] [_] _) _);(focus ((with_reducible apply Tp.cmp);(focus (k_extra "mpe"));(focus (k_extra "mpe"));(focus (k_extra "mcm"));(focus (kernel_rfl)))))))
 k_with "mev"=>(first  |(focus ((with_reducible refine' Ev.pe ?_ ?_);rotate_left;(focus (k_extra "mpe"))))  |(focus ((with_reducible show Ev _ _ _ (.Name _ _) _ _ _ _);first|k_extra "mname"))  |(with_reducible refine Ev.cint ?_)  |(with_reducible refine Ev.cstr ?_)  |(with_reducible refine Ev.cbool ?_)  |(with_reducible refine Ev.cnone ?_)  |(with_reducible refine Ev.bin ?_)  |(with_reducible refine Ev.cmp ?_)  |(with_reducible refine Ev.slice ?_)  |(with_reducible refine Ev.sub ?_)  |(with_reducible refine Ev.attrS ?_)  |(with_reducible refine Ev.tuple ?_)  |(focus ((with_reducible show Ev _ _ _ (.Call (.Attribute _ _ _) _ [] _) _ _ _ _);first|(with_reducible refine' Ev.bmethP F.plainAttrs_list F.slot_list_append F.type_list_append (by k_extra "mpe") (by k_extra "mtyv") (by k_extra "mpes") ?_ (by kernel_rfl))|(with_reducible refine' Ev.bmethP F.plainAttrs_list F.slot_list_pop F.type_list_pop (by k_extra "mpe") (by k_extra "mtyv") (by k_extra "mpes") ?_ (by kernel_rfl))|(with_reducible refine' Ev.bmethP F.plainAttrs_list F.slot_list_remove F.type_list_remove (by k_extra "mpe") (by k_extra "mtyv") (by k_extra "mpes") ?_ (by kernel_rfl))|(with_reducible refine' Ev.bmethP F.plainAttrs_list F.slot_list_clear F.type_list_clear (by k_extra "mpe") (by k_extra "mtyv") (by k_extra "mpes") ?_ (by kernel_rfl))|(with_reducible refine' Ev.bmethP F.plainAttrs_list F.slot_list_reverse F.type_list_reverse (by k_extra "mpe") (by k_extra "mtyv") (by k_extra "mpes") ?_ (by kernel_rfl))|(with_reducible refine' Ev.bmethP F.plainAttrs_str F.slot_str_join F.type_str_join (by k_extra "mpe") (by k_extra "mtyv") (by k_extra "mpes") ?_ (by kernel_rfl))|(with_reducible refine' Ev.bmethP F.plainAttrs_list F.slot_list_insert F.type_list_insert (by k_extra "mpe") (by k_extra "mtyv") (by k_extra "mpes") ?_ (by kernel_rfl))|(with_reducible refine' Ev.bmethP F.plainAttrs_list F.slot_list_index F.type_list_index (by k_extra "mpe") (by k_extra "mtyv") (by k_extra "mpes") ?_ (by kernel_rfl))|(with_reducible refine' Ev.bmethP F.plainAttrs_list F.slot_list_count F.type_list_count (by k_extra "mpe") (by k_extra "mtyv") (by k_extra "mpes") ?_ (by kernel_rfl))|(with_reducible refine' Ev.bmethP F.plainAttrs_str F.slot_str_upper F.type_str_upper (by k_extra "mpe") (by k_extra "mtyv") (by k_extra "mpes") ?_ (by kernel_rfl))|(with_reducible refine' Ev.bmethP F.plainAttrs_dict F.slot_dict_pop F.type_dict_pop (by k_extra "mpe") (by k_extra "mtyv") (by k_extra "mpes") ?_ (by kernel_rfl))|(with_reducible refine' Ev.bmethP F.plainAttrs_dict F.slot_dict_get F.type_dict_get (by k_extra "mpe") (by k_extra "mtyv") (by k_extra "mpes") ?_ (by kernel_rfl))|(with_reducible refine' Ev.methP (by k_extra "mpe") (by k_extra "mmetp") (by k_extra "mpes") ?_ (by kernel_rfl) (by kernel_rfl))))  |(focus ((with_reducible show Ev _ _ _ (.Call (.Name _ _) _ [] _) _ _ _ _);first|(with_reducible refine' Ev.callPB (by kernel_rfl!) (by k_extra "mK") (by boot_by_name) (by decide) (by k_extra "mpes") ?_ (by kernel_rfl))|(with_reducible refine' Ev.callPT (by kernel_rfl!) (by k_extra "mK") (by boot_by_name) (by decide) (by k_extra "mpes") ?_ (by kernel_rfl))))  |(focus ((with_reducible show Ev _ _ _ (.Call _ _ [] _) _ _ _ _);first|k_extra "mmeth" | (with_reducible refine Ev.methS ?_)|k_extra "mcall"))  |(with_reducible refine Ev.un ?_)  |(with_reducible refine Ev.chain ?_)  |(with_reducible refine Ev.boolop ?_)  |(with_reducible refine Ev.list ?_)  |(focus ((with_reducible show Ev _ _ _ (.ListComp _ _ _ _) _ _ _ _);first|k_extra "mcomp"))  |(focus ((with_reducible show Ev _ _ _ (.Dict _ _ _) _ _ _ _);first|k_extra "mdict")))
 k_with "mex"=>(first  |(with_reducible refine Ex.ret ?_)  |(with_reducible refine Ex.ite ?_)  |(with_reducible refine Ex.exprS ?_)  |(focus ((with_reducible show Ex _ _ _ (.Assign [_] (.ListComp _ _ _ _) _) _ _ _ _);first|k_extra "mcompA"))  |(with_reducible refine Ex.assignS ?_)  |(focus ((with_reducible apply Ex.for);rotate_left;(focus (intro _;kernel_rfl)))))
 k_with "M"=>(repeat k_extra "m")
 k_with "m"=>(first  |(focus ((with_reducible show Ev _ _ _ _ _ _ _ _);first|k_extra "mev"))  |(focus ((with_reducible show Exs _ _ _ _ _ _ _ _);first|(focus ((with_reducible show Exs _ _ _ (.Assign [.Name _ _] (.ListComp _ _ _ _) _::_) _ _ _ _);first|(with_reducible refine Exs.cons ?_)))|(focus ((with_reducible show Exs _ _ _ (.Assign [.Name _ _] _ _::_) _ _ _ _);first|(with_reducible refine' Exs.asgP (by kernel_rfl!) (by k_extra "mpe") ?_ (by kernel_rfl))|(with_reducible refine' Exs.asgN (by kernel_rfl!) ?_ (by kernel_rfl))))|(focus ((with_reducible show Exs _ _ _ (.Expr _ _::_) _ _ _ _);first|(with_reducible refine Exs.expN ?_ (by kernel_rfl) (by kernel_rfl))))|(focus ((with_reducible show Exs _ _ _ (.Return (some _) _::_) _ _ _ _);first|(with_reducible refine' Exs.retP (by k_extra "mpe") ?_)))|(focus ((with_reducible show Exs _ _ _ (.If _ _ _ _::_) _ _ _ _);first|(with_reducible refine' Exs.ifP (by k_extra "mtp") ?_)))|(with_reducible refine Exs.cons ?_)|(with_reducible refine Exs.nil ?_)))  |(focus ((with_reducible show Then _ _ _ _ _ _ _ _ _);first|(with_reducible refine Then.next ?_)|(with_reducible refine Then.ret ?_)))  |(focus ((with_reducible show Ags _ _ _ _ _ _ _ _ _);first|(focus ((with_reducible refine' Ags.pe ?_ ?_);rotate_left;(focus (k_extra "mpes"))))|(with_reducible refine Ags.consS ?_)|(with_reducible refine Ags.nil ?_)))  |(focus ((with_reducible show CmpWP _ _ _ _ _ _ _ _);first|(with_reducible refine CmpWP.eq_int ?_)|(with_reducible refine CmpWP.ne_int ?_)|(with_reducible refine CmpWP.lt_int ?_)|(with_reducible refine CmpWP.le_int ?_)|(with_reducible refine CmpWP.gt_int ?_)|(with_reducible refine CmpWP.ge_int ?_)|(with_reducible refine CmpWP.eq_str ?_)|(with_reducible refine CmpWP.ne_str ?_)|(with_reducible refine CmpWP.inStr ?_)|(with_reducible refine CmpWP.isNone ?_)|(with_reducible refine CmpWP.isNotNone ?_)))  |(focus ((with_reducible show Tst _ _ _ _ _ _ _ _);first|(focus ((with_reducible refine' Tst.pe ?_ ?_);rotate_left;(focus (k_extra "mtp"))))|(with_reducible refine Tst.cmp ?_)|(with_reducible refine Tst.not ?_)|(with_reducible refine Tst.boolop ?_)|(with_reducible refine Tst.chain ?_)|(with_reducible refine Tst.valS ?_)))  |(focus ((with_reducible show Ex _ _ _ _ _ _ _ _);first|k_extra "mex"))  |(focus ((with_reducible show Asg _ _ _ _ _ _ _ _ _);first|k_extra "masg"))  |(focus ((with_reducible show BinWP _ _ _ _ _ _ _ _);first|(with_reducible refine BinWP.add_int ?_)|(with_reducible refine BinWP.sub_int ?_)|(focus ((with_reducible apply BinWP.mul_int);rotate_left;(focus (first|exact Z2A (by decide) (by decide)|exact Z2B (by decide) (by decide)|exact Z2A (by(first|lia|omega)) (by(first|lia|omega))|exact Z2B (by(first|lia|omega)) (by(first|lia|omega))))))|(focus ((with_reducible apply BinWP.fmod_int);(focus (decide))))|(focus ((with_reducible apply BinWP.fdiv_int);(focus (decide));(focus (decide))))))  |(focus ((with_reducible show TruWP _ _ _ _ _ _);first|(with_reducible refine TruWP.bool ?_)|(focus ((with_reducible apply TruWP.list);(focus (k_extra "mlst"));(focus (k_extra "mom"))))))  |(focus ((with_reducible show ItemWP _ _ _ _ _ _ _);first|(with_reducible refine ItemWP.tup0 ?_)|(with_reducible refine ItemWP.tup1 ?_)|(with_reducible refine ItemWP.tup2 ?_)|(with_reducible refine ItemWP.tup3 ?_)|(with_reducible refine ItemWP.tup4 ?_)|(with_reducible refine ItemWP.neg2 ?_)|(with_reducible refine ItemWP.neg3 ?_)|(focus ((with_reducible apply ItemWP.last);(focus (k_extra "mlst"))))|(focus ((with_reducible apply ItemWP.sd);(focus (k_extra "mst"));(focus (k_extra "msget"))))))  |(focus ((with_reducible show CallWP _ _ _ _ _ _ _);first|(focus ((with_reducible apply CallWP.isiLT);(focus (k_extra "mhasty"));(focus (first|exact Or.inl rfl|exact Or.inr rfl))))|(focus ((with_reducible apply Z3D);(focus (k_extra "mhasty"));(focus (decide));(focus (rfl))))|(focus ((with_reducible apply CallWP.append);(focus (k_extra "mst"));(focus (k_extra "mom"))))|(focus ((with_reducible apply BltWP.len_list);(focus (k_extra "mlst"));(focus (k_extra "mom"))))|(focus ((with_reducible apply CallWP.len_tup);(focus (k_extra "mom"))))|(focus ((with_reducible apply CallWP.pop);(focus (k_extra "mst"));(focus (k_extra "mom"))))|(focus ((with_reducible apply CallWP.listOf);(focus (k_extra "mlst"));(focus (k_extra "mom"))))|(with_reducible refine CallWP.range1 ?_)|(focus ((with_reducible apply CallWP.max2);(focus (assumption))))))  |(with_reducible refine WhQ.n ?_)  |(focus ((with_reducible show if _=true then _ else _);first|(focus ((with_reducible apply Br.t);(focus (rfl))))|(focus ((with_reducible apply Br.f);(focus (rfl))))|(focus ((with_reducible apply Br.t);(focus (decide +kernel))))|(focus ((with_reducible apply Br.f);(focus (decide +kernel))))|(focus ((with_reducible apply Br.t);(focus ((simp;done)))))|(focus ((with_reducible apply Br.f);(focus ((simp;done)))))))  |(with_reducible refine AllT.and_cons ?_)  |(with_reducible refine AllT.or_cons ?_)  |(with_reducible refine AllT.and_nil ?_)  |(with_reducible refine AllT.or_nil ?_)  |(with_reducible refine BoolE.one ?_)  |(with_reducible refine BoolE.and ?_)  |(with_reducible refine BoolE.or ?_)  |(with_reducible refine Ifs.nil ?_)  |(with_reducible refine Ifs.one ?_)  |(with_reducible refine UnWP.neg_int ?_)  |(with_reducible refine UnWP.not ?_)  |(with_reducible refine AsgO.cons ?_)  |(with_reducible refine AsgO.nil ?_)  |(with_reducible refine Prt.none ?_)  |(with_reducible refine Prt.some ?_)  |(with_reducible refine Prs.str ?_)  |(with_reducible refine Prs.nil ?_)  |k_extra "mty"   | (focus ((with_reducible refine' Szs.mk ?_ ?_);(focus (k_extra "msz"))))  |(focus ((with_reducible show AttrWP _ _ _ _ _);first|(with_reducible refine' AttP.go ?_ ?_;rotate_left;(focus (k_extra "matt")))|(focus ((with_reducible apply AttrWP.mk);(focus (k_extra "mst"));(focus (k_extra "mst"));(focus (k_extra "msget"));(focus (k_extra "mK"));(focus (k_extra "mK"));(focus (k_extra "mK"));(focus (k_extra "mK"));(focus ((intro _ q;cases q)))))))  |(focus ((with_reducible show MethWP _ _ _ _ _ _ _ _ _ _ _);first|(with_reducible refine LAt.met (name:="make") (f:=284) hK (by with_reducible assumption) (by kernel_rfl!) (fun _=>by kernel_rfl!) ?_)|(with_reducible refine LAt.met (name:="begin") (f:=251) hK (by with_reducible assumption) (by kernel_rfl!) (fun _=>by kernel_rfl!) ?_)|(with_reducible refine LAt.met (name:="go_on") (f:=258) hK (by with_reducible assumption) (by kernel_rfl!) (fun _=>by kernel_rfl!) ?_)|(with_reducible refine LAt.met (name:="call_in") (f:=265) hK (by with_reducible assumption) (by kernel_rfl!) (fun _=>by kernel_rfl!) ?_)|(with_reducible refine LAt.met (name:="send_away") (f:=272) hK (by with_reducible assumption) (by kernel_rfl!) (fun _=>by kernel_rfl!) ?_)|(with_reducible refine LAt.met (name:="do_deed") (f:=277) hK (by with_reducible assumption) (by kernel_rfl!) (fun _=>by kernel_rfl!) ?_)|(with_reducible refine LAt.met (name:="step") (f:=244) hK (by with_reducible assumption) (by kernel_rfl!) (fun _=>by kernel_rfl!) ?_)|(with_reducible refine LAt.met (name:="run") (f:=291) hK (by with_reducible assumption) (by kernel_rfl!) (fun _=>by kernel_rfl!) ?_)|(with_reducible refine LAt.met (name:="send") (f:=237) hK (by with_reducible assumption) (by kernel_rfl!) (fun _=>by kernel_rfl!) ?_)|(with_reducible refine LAt.met (name:="waiting") (f:=298) hK (by with_reducible assumption) (by kernel_rfl!) (fun _=>by kernel_rfl!) ?_)|(with_reducible refine LAt.met (name:="around") (f:=303) hK (by with_reducible assumption) (by kernel_rfl!) (fun _=>by kernel_rfl!) ?_)|(with_reducible refine LAt.met (name:="standing") (f:=310) hK (by with_reducible assumption) (by kernel_rfl!) (fun _=>by kernel_rfl!) ?_)|(with_reducible refine LAt.met (name:="idle") (f:=317) hK (by with_reducible assumption) (by kernel_rfl!) (fun _=>by kernel_rfl!) ?_)|(focus ((with_reducible apply MethWP.mk);(focus (k_extra "mst"));(focus (k_extra "mst"));(focus (k_extra "msget"));(focus (k_extra "mK"));(focus (k_extra "mK"));(focus (k_extra "mK"));(focus (k_extra "mK"))))))  |(focus ((with_reducible show SAttWP _ _ _ _ _ _);first|(focus ((with_reducible apply SAttWP.mk);(focus (k_extra "mst"));(focus (k_extra "mst"));(focus (exact Nat.le_of_ble_eq_true rfl));(focus (k_extra "mK"));(focus (k_extra "mK"));(focus (k_extra "mK"));(focus (k_extra "mK"));(focus (k_extra "msput"))))))  |(focus ((with_reducible refine' Src.enumN ?_ ?_ ?_ ?_);(focus (assumption));rotate_left;(focus (kernel_rfl));(focus (kernel_rfl))))  |(with_reducible refine Src.of ?_)  |(focus ((with_reducible refine' Eqs.mk ?_ ?_);(focus (rfl)))))
 k_with "mdef1"=>(refine' CallWP.def1 _ (by k_extra "mK") (by k_extra "mK") (by assumption) (by intro _;with_unfolding_all rfl) (by decide +kernel) (by kernel_rfl!) (by kernel_rfl!) (by rfl) (by rfl) (by rfl) ?_)
 k_with "mdef2"=>(refine' CallWP.def2 _ _ (by k_extra "mK") (by k_extra "mK") (by assumption) (by intro _ _;with_unfolding_all rfl) (by decide +kernel) (by kernel_rfl!) (by kernel_rfl!) (by rfl) (by rfl) (by rfl) ?_)
 k_with "mdef3"=>(refine' CallWP.def3 _ _ _ (by k_extra "mK") (by k_extra "mK") (by assumption) (by intro _ _ _;with_unfolding_all rfl) (by decide +kernel) (by kernel_rfl!) (by kernel_rfl!) (by rfl) (by rfl) (by rfl) ?_)
 k_with "mdef4"=>(refine' CallWP.def4 _ _ _ _ (by k_extra "mK") (by k_extra "mK") (by assumption) (by intro _ _ _ _;with_unfolding_all rfl) (by decide +kernel) (by kernel_rfl!) (by kernel_rfl!) (by rfl) (by rfl) (by rfl) ?_)
 k_with "mdefC1"=>(refine' CodC.def1 _ (by k_extra "mK") (by k_extra "mK") (by assumption) (by intro _;with_unfolding_all rfl) (by decide +kernel) (by kernel_rfl!) (by kernel_rfl!) (by rfl) (by rfl) (by rfl) ?_)
 k_with "mdefC3"=>(refine' CodC.def3 _ _ _ (by k_extra "mK") (by k_extra "mK") (by assumption) (by intro _ _ _;with_unfolding_all rfl) (by decide +kernel) (by kernel_rfl!) (by kernel_rfl!) (by rfl) (by rfl) (by rfl) ?_)
 trivial
structure WAt(σ:Store) (w dx n f:Addr) (near:List Int) (far:List (Int×Int)):Prop where
 hw:σ w=some (.inst 191 dx)
 hd:σ dx=some (.sd [("near",.ref n),("far",.ref f)])
 hn:σ n=some (.list (near.map V.int))
 hf:σ f=some (.list (far.map pv))
 nf:n≠f
theorem WAt.ne{σ:Store} {w dx n f:Addr} {near:List Int} {far:List (Int×Int)} (W:WAt σ w dx n f near far):w≠dx∧w≠n∧w≠f∧dx≠n∧dx≠f:=by
 revert σ w dx n f near far;k_extra "e7";intro σ w dx n f near far W
 obtain⟨h1,h2,h3,h4,-⟩:=W
 refine⟨?_,?_,?_,?_,?_⟩<;>intro e<;>subst e
 ·rw[h1]at h2;cases h2
 ·rw[h1]at h3;cases h3
 ·rw[h1]at h4;cases h4
 ·rw[h2]at h3;cases h3
 ·rw[h2]at h4;cases h4
theorem Z5z(hK:C.K=KL C.w.params) {Q:pV} (hr:A.depth+1<recursionLimit) (hh:A.handled=none)
  (h:∀w dx n f σ',Grow σ σ'->σ w=none->σ dx=none->σ n=none->σ f=none->WAt σ' w dx n f [] []->Q (.ref w) σ'):CallWP C A (.ref 191) [] σ Q X:=by
 refine CallWP.cls (by k_extra "mK") (by k_extra "mK") (by k_extra "mK") fun w dx A1 hw hd hne h1 h2 h3=>?_
 have hr1:A1.depth<recursionLimit:=by rw[h2];exact hr
 k_extra "mdefC1"
 intro L A' a1 a2 a3
 have hne':dx≠w:=Ne.symm hne
 k_extra "M"
 intro n hn
 obtain⟨q1,hn0⟩:=Store.none_ne hn
 obtain⟨q2,hn0⟩:=Store.none_ne hn0
 k_extra "M"
 intro f hf
 obtain⟨q3,hf0⟩:=Store.none_ne hf
 obtain⟨q4,hf0⟩:=Store.none_ne hf0
 obtain⟨q5,hf0⟩:=Store.none_ne hf0
 obtain⟨q6,hf0⟩:=Store.none_ne hf0
 k_extra "M"
 refine h w dx n f _ ?_ hw hd hn0 hf0 ⟨?_,?_,?_,?_,Ne.symm q4⟩
 ·exact(((((Grow.rfl'.upd hd).upd hw).upd hn0).upd hd).upd hf0).upd hd
 ·k_extra "mst"
 ·k_extra "mst"
 ·simp only[List.map_nil];k_extra "mst"
 ·simp only[List.map_nil];k_extra "mst"
theorem Z4Y(hK:C.K=KL C.w.params) {w dx n f:Addr} {near:List Int} {far:List (Int×Int)} {x:Int} {Q:pV} (hr:A.depth<recursionLimit) (hh:A.handled=none) (W:WAt σ w dx n f near far) (hz:near.length≤10000)
  (h:Q .none (σ.upd n (.list ((near++[x]).map V.int)))):CallWP C A (.ref 164) [.ref w,.int x] σ Q X:=by
 obtain⟨hw,hd,hn,hf,nf⟩:=W
 k_extra "mdef2"
 intro L A' a1 a2 a3
 k_extra "M"
 show Q V.none _
 simpa using h
theorem Z3s(hK:C.K=KL C.w.params) {w dx n f:Addr} {near:List Int} {far:List (Int×Int)} {x d:Int} {Q:pV} (hr:A.depth<recursionLimit) (hh:A.handled=none) (W:WAt σ w dx n f near far) (hz:far.length≤10000)
  (h:Q .none (σ.upd f (.list ((far++[(d,x)]).map pv)))):CallWP C A (.ref 171) [.ref w,.int x,.int d] σ Q X:=by
 obtain⟨hw,hd,hn,hf,nf⟩:=W
 k_extra "mdef3"
 intro L A' a1 a2 a3
 k_extra "M"
 show Q V.none _
 simpa [pv] using h
theorem Z4Z(hK:C.K=KL C.w.params) {w dx n f:Addr} {near:List Int} {far:List (Int×Int)} {Q:pV} (hr:A.depth<recursionLimit) (hh:A.handled=none) (W:WAt σ w dx n f near far) (hz:near.length≤10000) (hz2:far.length≤10000)
  (h:∀(a:Addr) (σ':Store) (ps:List (Int×Int)),Grow σ σ'->σ a=none->ps.Perm far->ps.Pairwise (fun p q=>lexlt q p=false)->σ' a=some (.list ((near++ps.map (·.2)).map V.int))->Q (.ref a) σ'):CallWP C A (.ref 176) [.ref w] σ Q X:=by
 obtain⟨hw,hd,hn,hf,nf⟩:=W
 k_extra "mdef1"
 intro L A' a1 a2 a3
 have hh':A'.handled=none:=a1.trans hh
 k_extra "M"
 refine CallWP.sortedPairs2 (.inl hf) (by(first|lia|omega)) fun s ps hs hp ho=>?_
 have hpl:=hp.length_eq
 refine⟨_,_,ItV.list hh' (.inl Store.hit),fun L'=>?_⟩
 refine CmpL.pure (fun _=>true) (fun y=>match y with|.tup [_,b]=>b|_=>.none) (.inl Store.hit) _ _ ?_ ?_ (by simp[sizeLine_eq];(first|lia|omega)) ?_
 ·intro y hy Q hQ
  k_extra "M"
  exact hQ
 ·intro y hy _ Q hQ
  obtain⟨p,hp,rfl⟩:=List.mem_map.mp hy
  simp only[pv]
  k_extra "M"
  exact hQ
 ·intro c hc
  obtain⟨q1,hc0⟩:=Store.none_ne hc
  have e:([]:List V)++List.map (fun y=>match y with|.tup [_,b]=>b|_=>.none) (List.filter (fun _=>true) (ps.map pv))=(ps.map (·.2)).map V.int:=by
   rw[List.nil_append,List.filter_eq_self.mpr (fun _ _=>rfl),List.map_map,List.map_map];rfl
  rw[e]
  refine BinWP.cat (.inl (by k_extra "mst")) (.inl Store.hit) (by simp[sizeLine_eq];(first|lia|omega)) fun a ha=>?_
  obtain⟨q2,ha0⟩:=Store.none_ne ha
  obtain⟨q3,ha0⟩:=Store.none_ne ha0
  refine h a _ ps (((Grow.rfl'.upd hs).upd hc0).upd ha0) ha0 hp ho ?_
  rw[Store.hit];simp
theorem ZG{α β:Type} (f:α->β):∀(l:List α) (i:Nat),(l.map f).eraseIdx i=(l.eraseIdx i).map f
 | [],_=>rfl
 | _::_,0=>rfl
 | a::l,i+1=>by simp[ZG f l i]
theorem Z2i(p:Int×Int):∀(l:List (Int×Int)),p∈l->(l.map fun q:Int×Int=>PyData.tuple [.int q.1,.int q.2]).findIdx? (fun y=>PyData.eqv y (.tuple [.int p.1,.int p.2]))=some (l.idxOf p)
 | q::l,h=>by
  rw[List.map_cons,List.findIdx?_cons,List.idxOf_cons]
  have e:PyData.eqv (.tuple [.int q.1,.int q.2]) (.tuple [.int p.1,.int p.2])=(q==p):=by
   rw[Bool.eq_iff_iff]
   simp[PyData.eqv,PyData.eqvAll,Prod.ext_iff]
  rw[e]
  cases z:q==p with
  | true=>rfl
  | false=>
   have:p∈l:=by
    rcases List.mem_cons.mp h with w|w
    ·rw[w]at z;simp at z
    ·exact w
   simp[Z2i p l this]
theorem Z5Z{w dx n f:Addr} {near:List Int} {far:List (Int×Int)} {Q:pV} (hK:C.K=KL C.w.params) (hr:A.depth<recursionLimit) (hh:A.handled=none) (hu:A.units<9000) (W:WAt σ w dx n f near far) (hz:near.length≤10000) (hz2:far.length≤10000) (h1:∀x r,near=x::r->Q (.tup [.int x,.none]) (σ.upd n (.list (r.map V.int)))) (h2:near=[]->far=[]->Q .none σ) (h3:near=[]->∀p,p∈far->(∀q∈far,lexlt q p=false)->Q (.tup [.int p.2,.int p.1]) (σ.upd f (.list ((far.erase p).map pv)))):CallWP C A (.ref 183) [.ref w] σ Q X:=by
 revert C A σ X w dx n f near far Q;k_extra "e11";intro C A σ X w dx n f near far Q hK hr hh hu W hz hz2 h1 h2 h3
 obtain⟨hw,hd,hn,hf,nf⟩:=W
 k_extra "mdef1"
 intro L A' a1 a2 a3
 have hh':A'.handled=none:=a1.trans hh
 k_extra "M"
 cases near with
 | cons x r=>
  refine Br.t (by simp) ?_
  k_extra "M"
  refine CallWP.pop_at (j:=0) hn (by decide) (by rw[seqIndex_of (by(first|lia|omega)) (by simp<;>(first|lia|omega))];rfl) rfl (by rw[List.length_map,sizeLine_eq];(first|lia|omega)) ?_
  k_extra "M"
  exact h1 x r rfl
 | nil=>
  refine Br.f (by simp) ?_
  k_extra "M"
  cases far with
  | nil=>
   refine Br.t (by simp) ?_
   k_extra "M"
   exact h2 rfl rfl
  | cons p0 r=>
   refine Br.f (by simp) ?_
   k_extra "M"
   refine CallWP.minPairs hh' (by rw[a3];simp only[cLine];exact Y6u hu) (.inl hf) (by simp) fun p hp hmin=>?_
   k_extra "M"
   have hidx:=Z2i p (p0::r) hp
   refine CallWP.remove (d:=.tuple [.int p.1,.int p.2]) hf (.tup (.cons (.int _) (.cons (.int _) .nil))) (DRs.map (g:=fun q:Int×Int=>PyData.tuple [.int q.1,.int q.2]) fun q _=>.tup (.cons (.int _) (.cons (.int _) .nil))) (by simp[PyData.canLay0,PyData.canLayAll0]) (Z5 fun q _=>by simp[PyData.canLay0,PyData.canLayAll0])
    (by rw[a3];simp only[PyData.depth,PyData.depthAll,cLine];exact Y6v hu) (by rw[List.length_map,sizeLine_eq];exact Y6w hz2) hidx ?_
   simp only[pv]
   k_extra "M"
   have e:List.eraseIdx ((p0::r).map pv) ((p0::r).idxOf p)=((p0::r).erase p).map pv:=by
    rw[List.erase_eq_eraseIdx_of_idxOf rfl,ZG]
   rw[e]
   exact h3 rfl p hp hmin
theorem Z60{w dx n f m:Addr} {near ns:List Int} {far:List (Int×Int)} {Q:pV} (hK:C.K=KL C.w.params) (hr:A.depth<recursionLimit) (hh:A.handled=none) (hu:A.units<9000) (W:WAt σ w dx n f near far) (hm:σ m=some (.list (ns.map V.int))) (hz:near.length≤10000) (hz2:far.length≤10000) (h:∀n' f' σ',(∀b o,b≠dx->σ b=some o->σ' b=some o)->σ n'=none->σ f'=none->WAt σ' w dx n' f' (near.filter fun x=>!ns.contains x) (far.filter fun p=>!ns.contains p.2)->Q .none σ'):CallWP C A (.ref 188) [.ref w,.ref m] σ Q X:=by
 revert C A σ X w dx n f m near ns far Q;k_extra "e13";intro C A σ X w dx n f m near ns far Q hK hr hh hu W hm hz hz2 h
 obtain⟨n1,n2,n3,n4,n5⟩:=W.ne
 obtain⟨hw,hd,hn,hf,nf⟩:=W
 have hmd:m≠dx:=fun e=>by rw[e,hd]at hm;cases hm
 have inL:∀{A':Around} {σ':Store} {x:Int} {Q:pV} {X:XP},A'.units=A.units+3->σ' m=some (.list (ns.map V.int))->Q (.bool (!ns.contains x)) σ'->CmpWP C A' .NotIn (.int x) (.ref m) σ' Q X:=by
  intro A' σ' x Q X hA hm' hQ
  refine CmpWP.notInL (ds:=ns.map PyData.int) (.inl hm') (.int _) (DRs.map fun _ _=>.int _) (by simp[PyData.canLay0]) (Z5 fun _ _=>by simp[PyData.canLay0]) (by rw[hA];simp only[PyData.depth,cLine];exact Y6x hu) ?_
  have e:((ns.map PyData.int).any fun y=>PyData.eqv y (.int x))=ns.contains x:=by
   rw[Bool.eq_iff_iff]
   simp[PyData.eqv]
  rw[e];exact hQ
 k_extra "mdef2"
 intro L A' a1 a2 a3
 have hh':A'.handled=none:=a1.trans hh
 k_extra "M"
 refine⟨_,_,ItV.list hh' (.inl hn),fun L'=>?_⟩
 refine CmpL.pure (fun y=>match y with|.int x=>!ns.contains x|_=>false) id (.inl hn) _ _ ?_ ?_ (by simp[sizeLine_eq];exact Y6w hz) ?_
 ·intro y hy Q hQ
  obtain⟨x,hx,rfl⟩:=List.mem_map.mp hy
  k_extra "M"
  refine inL a3 hm ?_
  k_extra "M"
  exact hQ
 ·intro y hy _ Q hQ
  k_extra "M"
  exact hQ
 intro n' hn'
 have e1:([]:List V)++List.map id (List.filter (fun y=>match y with|.int x=>!ns.contains x|_=>false) (near.map V.int))=(near.filter fun x=>!ns.contains x).map V.int:=by
  rw[List.nil_append,List.map_id,List.filter_map];rfl
 rw[e1]
 k_extra "M"
 have hf1:((σ.upd n' (.list ((near.filter fun x=>!ns.contains x).map V.int))).upd dx (.sd [("near",.ref n'),("far",.ref f)])) f=some (.list (far.map pv)):=by k_extra "mst"
 have hm1:((σ.upd n' (.list ((near.filter fun x=>!ns.contains x).map V.int))).upd dx (.sd [("near",.ref n'),("far",.ref f)])) m=some (.list (ns.map V.int)):=by k_extra "mst"
 refine⟨_,_,ItV.list hh' (.inl hf1),fun L'=>?_⟩
 refine CmpL.pure (fun y=>match y with|.tup [_,.int x]=>!ns.contains x|_=>false) id (.inl hf1) _ _ ?_ ?_ (by simp[sizeLine_eq];exact Y6w hz2) ?_
 ·intro y hy Q hQ
  obtain⟨x,hx,rfl⟩:=List.mem_map.mp hy
  simp only[pv]
  k_extra "M"
  refine inL a3 hm1 ?_
  k_extra "M"
  exact hQ
 ·intro y hy _ Q hQ
  k_extra "M"
  exact hQ
 intro f' hf'
 have e2:([]:List V)++List.map id (List.filter (fun y=>match y with|.tup [_,.int x]=>!ns.contains x|_=>false) (far.map pv))=(far.filter fun p=>!ns.contains p.2).map pv:=by
  rw[List.nil_append,List.map_id,List.filter_map];rfl
 rw[e2]
 obtain⟨q1,hf0⟩:=Store.none_ne hf'
 obtain⟨q2,hf0⟩:=Store.none_ne hf0
 have q3:n'≠dx:=fun e=>by rw[e,hd]at hn';cases hn'
 k_extra "M"
 refine h n' f' _ (fun b o hb e=>?_) hn' hf0 ⟨?_,?_,?_,?_,Ne.symm q2⟩
 ·rw[Store.miss hb (Store.miss (fun q=>by rw[q,hf0]at e;cases e) (Store.miss hb (Store.miss (fun q=>by rw[q,hn']at e;cases e) e)))]
 ·k_extra "mst"
 ·k_extra "mst"
 ·k_extra "mst"
 ·k_extra "mst"
structure Hd where
 name:Str
 rank:Int
 hears:Str
 once:Bool
 deeds:V
noncomputable def hv (h:Hd):V:=.tup [.str h.name,.int h.rank,.str h.hears,.bool h.once,h.deeds]
noncomputable def hdOf (hs:List Hd) (n:Str):Option Hd:=hs.find? fun h=>h.name==n
noncomputable def rk (hs:List Hd) (n:Str):Int:=((hdOf hs n).map (·.rank)).getD 0
noncomputable def hrs (hs:List Hd) (n:Str):Str:=((hdOf hs n).map (·.hears)).getD Str.empty
noncomputable def Zb (hs:List Hd) (ns:List Str) (w:Str):List Str:=ns.filter fun n=>(hrs hs n==Str.ofString "")||(hrs hs n==w)
noncomputable def Heard (hs:List Hd) (ns:List Str) (w:Str) (out:List Str):Prop:=∃p:List Nat,p.Perm (List.range (Zb hs ns w).length)∧p.Pairwise (slt fun i j=>decide (rk hs ((Zb hs ns w).getD i Str.empty)<rk hs ((Zb hs ns w).getD j Str.empty)))∧out=p.map fun i=>(Zb hs ns w).getD i Str.empty
theorem Z3t:∀{hs:List Hd} {n:Str},n∈hs.map (·.name)->∃h,h∈hs∧h.name=n∧hdOf hs n=some h∧sget (hs.map fun h=>(h.name,hv h)) n=some (hv h)
 | k::hs,n,hm=>by
  by_cases q:k.name=n
  ·exact⟨k,.head _,q,by simp[hdOf,q],by simp[sget,q]⟩
  ·rw[List.map_cons]at hm
   rcases List.mem_cons.mp hm with e|hm
   ·exact absurd e.symm q
   ·obtain⟨h,h1,h2,h3,h4⟩:=Z3t hm
    have q':(k.name==n)=false:=beq_eq_false_iff_ne.mpr q
    refine⟨h,.tail _ h1,h2,by unfold hdOf;rw[List.find?_cons,q'];exact h3,?_⟩
    unfold sget at h4 ⊢
    simp only[List.map_cons,List.find?_cons,q,decide_false]
    exact h4
theorem Z2Q:∀{hs:List Hd} {h:Hd},h.name∉hs.map (·.name)->sput (hs.map fun h=>(h.name,hv h)) h.name (hv h)=(hs++[h]).map fun h=>(h.name,hv h)
 | [],h,_=>rfl
 | k::hs,h,hn=>by
  simp only[List.map_cons,List.mem_cons,not_or]at hn
  simp only[List.map_cons,List.cons_append,sput,hn.1,if_false]
  exact congrArg _ (Z2Q hn.2)
theorem Z2R(a b:Str):(a==b)=(b==a):=by
 rw[Bool.eq_iff_iff];simp only[beq_iff_eq];exact⟨Eq.symm,Eq.symm⟩
theorem CmpWP.inT2{x a b:Str} {Q:pV} (hu:A.units<9000) (hx:PyData.strOk x=true) (ha:PyData.strOk a=true) (hb:PyData.strOk b=true) (h:Q (.bool ((a==x)||(b==x))) σ):CmpWP C A .In (.str x) (.tup [.str a,.str b]) σ Q X:=by
 refine CmpWP.inT (d:=.str x) (ds:=[.str a,.str b]) (.str _) (.cons (.str _) (.cons (.str _) .nil)) (by simpa [PyData.canLay0] using hx) (by simp[PyData.canLayAll0,PyData.canLay0,ha,hb]) (by simp only[PyData.depthAll,PyData.depth,cLine];exact Y6y hu) ?_
 have e:([PyData.str a,PyData.str b].any fun y=>PyData.eqv y (.str x))=((a==x)||(b==x)):=by simp[PyData.eqv]
 rw[e];exact h
set_option tactic.hygienic true in
theorem Z4v{hl nl:Addr} {hs:List Hd} {ns:List Str} {w:Str} {Q:pV} (hK:C.K=KL C.w.params) (hB:BMod C) (Cd:CodeHd C.h₀ 142 140) (hr:A.depth+1<recursionLimit) (hh:A.handled=none) (hu:A.units<8000) (hP:σ 140=some (.tab ⟨85,29,85,58⟩ (Str.ofString "hearers" ++ Str.ofString ".<locals>." ++ Str.ofString "<lambda>"))) (h1:σ hl=some (.list (hs.map hv))) (h2:σ nl=some (.list (ns.map V.str))) (nd:(hs.map (·.name)).Nodup) (hsub:∀n∈ns,n∈hs.map (·.name)) (hz:hs.length≤60) (hz2:ns.length<64) (hok:∀h∈hs,PyData.strOk h.hears=true) (hw:PyData.strOk w=true) (h:∀(a:Addr) (σ':Store) (out:List Str),Grow σ σ'->σ a=none->Heard hs ns w out->σ' a=some (.list (out.map V.str))->Q (.ref a) σ'):CallWP C A (.ref 143) [.ref hl,.ref nl,.str w] σ Q X:=by
 revert C A σ X hl nl hs ns w Q;k_extra "e10";intro C A σ X hl nl hs ns w Q hK hB Cd hr hh hu hP h1 h2 nd hsub hz hz2 hok hw h
 have hr0:A.depth<recursionLimit:=by exact Y37 hr
 k_extra "mdef3"
 intro L A' a1 a2 a3
 have hh':A'.handled=none:=a1.trans hh
 have hr':A'.depth<recursionLimit:=by rw[a2];exact hr
 have hu':A'.units<9000:=by rw[a3];exact Y6z hu
 k_extra "M"
 refine Ev.dict0 fun d hd=>?_
 k_extra "M"
 refine⟨_,_,ItV.list hh' (.inl (Store.at_fresh hd h1)),?_⟩
 refine ForL.invJ hv (fun rest ρ σ1=>∃done,done++rest=hs∧Grow σ σ1∧σ1 d=some (.sd (done.map fun h=>(h.name,hv h)))∧ρ.get "by_name" = some (.ref d)∧ρ.get "names" = some (.ref nl)∧ρ.get "word" = some (.str w)) ?_ ?_ _ _ _ ⟨[],rfl,Grow.rfl'.upd hd,Store.hit,by k_extra "mget",by k_extra "mget",by k_extra "mget"⟩
 ·intro J x rest hN _ _ ρ σ1
  refine Z1O fun done e g gd r1 r2 r3=>?_
  have hnew:x.name∉done.map (·.name):=by
   rw[←e,List.map_append,List.nodup_append]at nd
   exact fun hm=>nd.2.2 _ hm _ (by simp) rfl
  have hlen:done.length≤60:=by rw[←e]at hz;simp at hz;exact Y6A hz
  simp only[hv]
  k_extra "M"
  refine SetWP.sd gd (by simp only[List.length_map,sizeLine_eq];exact Y6B hlen) ?_
  have e2:=Z2Q hnew
  simp only[hv]at e2 ⊢
  rw[e2]
  k_extra "M"
  refine hN _ _ (.inl ?_) ⟨done++[x],by rw[←e];simp,g.upd hd,Store.hit,by k_extra "mget",by k_extra "mget",by k_extra "mget"⟩
  exact(g.upd hd) _ _ h1
 intro ρ σ1
 refine Z1O fun done e g gd r1 r2 r3=>?_
 rw[List.append_nil]at e
 subst e
 have h2':=g _ _ h2
 k_extra "M"
 refine⟨_,_,ItV.list hh' (.inl h2'),fun L'=>?_⟩
 have look:∀n∈ns,∃x,x∈done∧hdOf done n=some x∧sget (done.map fun h=>(h.name,hv h)) n=some (.tup [.str x.name,.int x.rank,.str x.hears,.bool x.once,x.deeds]):=fun n hn=>by
  obtain⟨x,x1,x2,x3,x4⟩:=Z3t (hsub n hn)
  exact⟨x,x1,x3,x4⟩
 refine CmpL.pure (fun y=>match y with|.str n=>(hrs done n==Str.ofString "")||(hrs done n==w)|_=>false) id (.inl h2') _ _ ?_ ?_ (by simp[sizeLine_eq];exact Y5n hz2) ?_
 ·intro y hy Q hQ
  obtain⟨n,hn,rfl⟩:=List.mem_map.mp hy
  obtain⟨x,x1,x3,x4⟩:=look n hn
  k_extra "M"
  refine CmpWP.inT2 hu' (hok x x1) (Z0 _) hw ?_
  k_extra "M"
  have e3:hrs done n=x.hears:=by unfold hrs;rw[x3];rfl
  have e4:((Str.ofString "" == x.hears)||(w==x.hears))=((hrs done n==Str.ofString "")||(hrs done n==w)):=by
   rw[e3,Z2R (Str.ofString "") x.hears,Z2R w x.hears]
  rw[e4];exact hQ
 ·intro y hy _ Q hQ
  k_extra "M"
  exact hQ
 intro fa hfa
 have ef:([]:List V)++List.map id (List.filter (fun y=>match y with|.str n=>(hrs done n==Str.ofString "")||(hrs done n==w)|_=>false) (ns.map V.str))=(Zb done ns w).map V.str:=by
  rw[List.nil_append,List.map_id,List.filter_map];rfl
 rw[ef]
 k_extra "M"
 refine Ev.sortLam Cd hB hr' (by decide +kernel) (by k_extra "mK") (by k_extra "mcapt") rfl (fun _ _ _ _ _=>rfl) rfl rfl rfl (by decide +kernel) (by decide +kernel) (by kernel_rfl) (by kernel_rfl) (by kernel_rfl) ?_
 k_extra "M"
 have hfl:(Zb done ns w).length≤ns.length:=List.length_filter_le ..
 refine⟨fa,_,(fun v=>match v with|.str n=>rk done n|_=>0),rfl,.inl Store.hit,by simp;exact Y6C hz2 hfl,Store.at_fresh hfa (g _ _ hP),?_,?_⟩
 ·intro x hx L2 f2 cdv A2 b1 b2
  obtain⟨n,hn,rfl⟩:=List.mem_map.mp hx
  obtain⟨x,x1,x3,x4⟩:=look n (List.mem_filter.mp hn).1
  k_extra "M"
  exact⟨rfl,by simp[rk,x3]⟩
 ·intro a p ha hp hs
  obtain⟨q1,ha0⟩:=Store.none_ne ha
  have e5:∀i,((Zb done ns w).map V.str).getD i V.none=if i<(Zb done ns w).length then V.str ((Zb done ns w).getD i Str.empty) else V.none:=fun i=>by
   split
   ·rename_i hi;simp[hi]
   ·rename_i hi;simp[Nat.le_of_not_lt hi]
  have hb:∀i∈p,i<(Zb done ns w).length:=fun i hi=>by simpa using hp.mem_iff.mp hi
  refine h a _ (p.map fun i=>(Zb done ns w).getD i Str.empty) ((g.upd (g.none hfa)).upd (g.none ha0)) (g.none ha0) ⟨p,by simpa using hp,?_,rfl⟩ ?_
  ·refine hs.imp_of_mem fun{i j} hi hj z=>?_
   unfold slt at z ⊢
   dsimp only at z ⊢
   rw[e5,e5,if_pos (hb i hi),if_pos (hb j hj)]at z
   exact z
  ·rw[Store.hit,List.map_map]
   congr 2
   refine List.map_congr_left fun i hi=>?_
   rw[e5,if_pos (hb i hi)];rfl
inductive Deed where
 | now (w:Str)|soon (w:Str)|wait (t:Int) (w:Str)|cancel (w:Str)|join (n:Str)|leave (n:Str)|hush
noncomputable def Deed.v:Deed->V
 | .now w=>.tup [.str (Str.ofString "now"),.str w]
 | .soon w=>.tup [.str (Str.ofString "soon"),.str w]
 | .wait t w=>.tup [.str (Str.ofString "wait"),.int t,.str w]
 | .cancel w=>.tup [.str (Str.ofString "cancel"),.str w]
 | .join n=>.tup [.str (Str.ofString "join"),.str n]
 | .leave n=>.tup [.str (Str.ofString "leave"),.str n]
 | .hush=>.tup [.str (Str.ofString "hush")]
structure Hn where
 name:Str
 rank:Int
 hears:Str
 once:Bool
 ds:List Deed
noncomputable def Hn.hd (h:Hn):Hd:=⟨h.name,h.rank,h.hears,h.once,.tup (h.ds.map Deed.v)⟩
noncomputable def optV:Option Int->V
 | none=>.none
 | some n=>.int n
structure Evt where
 word:Str
 maker:Option Int
 road:Str
 due:Int
noncomputable def Evt.v (e:Evt):V:=.tup [.str e.word,optV e.maker,.str e.road,.int e.due]
inductive Row where
 | send (n:Int)|beg (n t:Int)|fin (n:Int)|call (n:Int) (h:Str)|cancel (n:Int) (ns:List Int)|join (n:Int) (h:Str)|leave (n:Int) (h:Str)|hush (n:Int)|make (m n:Int)
noncomputable def Row.v:Row->V
 | .send n=>.tup [.str (Str.ofString "send"),.int n]
 | .beg n t=>.tup [.str (Str.ofString "begin"),.int n,.int t]
 | .fin n=>.tup [.str (Str.ofString "end"),.int n]
 | .call n h=>.tup [.str (Str.ofString "call"),.int n,.str h]
 | .cancel n ns=>.tup [.str (Str.ofString "cancel"),.int n,.tup (ns.map V.int)]
 | .join n h=>.tup [.str (Str.ofString "join"),.int n,.str h]
 | .leave n h=>.tup [.str (Str.ofString "leave"),.int n,.str h]
 | .hush n=>.tup [.str (Str.ofString "hush"),.int n]
 | .make m n=>.tup [.str (Str.ofString "make"),.int m,.int n]
structure Frm where
 num:Int
 calls:List Str
 deeds:List Deed
structure LS where
 posts:List Str
 time:Int
 events:List Evt
 log:List Row
 near:List Int
 far:List (Int×Int)
 frames:List Frm
 fresh:Option Int
structure LA where
 lo:Addr
 d:Addr
 ca:Addr
 po:Addr
 ev:Addr
 lg:Addr
 wa:Addr
 wd:Addr
 ne:Addr
 fa:Addr
 fr:Addr
structure FA where
 f:Addr
 d:Addr
 c:Addr
 e:Addr
theorem Z6E:Nonempty Deed:=⟨.hush⟩
theorem Z6F:Nonempty Hn:=⟨⟨default,0,default,false,[]⟩⟩
theorem Z6G:Nonempty Evt:=⟨⟨default,none,default,0⟩⟩
theorem Z6H:Nonempty Row:=⟨.send 0⟩
theorem Z6I:Nonempty Frm:=⟨⟨0,[],[]⟩⟩
theorem Z6J:Nonempty LS:=⟨⟨[],0,[],[],[],[],[],none⟩⟩
theorem Z6K:Nonempty LA:=⟨⟨0,0,0,0,0,0,0,0,0,0,0⟩⟩
theorem Z6L:Nonempty FA:=⟨⟨0,0,0,0⟩⟩
abbrev lamQ:Str:=Str.ofString "hearers" ++ Str.ofString ".<locals>." ++ Str.ofString "<lambda>"
abbrev tabE:Addr×O:=(140,.tab ⟨85,29,85,58⟩ lamQ)
noncomputable def fpF:List FA->List Frm->List (Addr×O)
 | f::fs,r::rs=>(f.f,.inst 212 f.d)::(f.d,.sd [("number",.int r.num),("calls",.ref f.c),("deeds",.ref f.e)])::(f.c,.list (r.calls.map V.str))::(f.e,.list (r.deeds.map Deed.v))::fpF fs rs
 | _,_=>[]
noncomputable def fp (a:LA) (fs:List FA) (cast:List Hn) (s:LS):lO:=
 (a.lo,.inst 320 a.d) ::
 (a.d,.sd [("cast",.ref a.ca),("posts",.ref a.po),("time",.int s.time),("events",.ref a.ev),("log",.ref a.lg),("waits",.ref a.wa),("frames",.ref a.fr),("fresh",optV s.fresh)]) ::
 (a.ca,.list ((cast.map Hn.hd).map hv)) ::
 (a.po,.list (s.posts.map V.str)) ::
 (a.ev,.list (s.events.map Evt.v)) ::
 (a.lg,.list (s.log.map Row.v)) ::
 (a.wa,.inst 191 a.wd) ::
 (a.wd,.sd [("near",.ref a.ne),("far",.ref a.fa)]) ::
 (a.ne,.list (s.near.map V.int)) ::
 (a.fa,.list (s.far.map pv)) ::
 (a.fr,.list ((fs.map fun f=>V.ref f.f).reverse)) ::
 fpF fs s.frames
structure LAt(σ:Store) (a:LA) (fs:List FA) (cast:List Hn) (s:LS) (rest:lO):Prop where
 led:Led σ (tabE::(fp a fs cast s++rest))
 len:fs.length=s.frames.length
section
variable {a:LA} {fs:List FA} {cast:List Hn} {s:LS} {rest:lO}
theorem LAt.wat(L:LAt σ a fs cast s rest):WAt σ a.wa a.wd a.ne a.fa s.near s.far:=
 ⟨L.led.get 7 rfl,L.led.get 8 rfl,L.led.get 9 rfl,L.led.get 10 rfl,L.led.ne 9 10 rfl rfl (by decide)⟩
theorem LAt.grow{σ':Store} (L:LAt σ a fs cast s rest) (g:Grow σ σ'):LAt σ' a fs cast s rest:=⟨L.led.grow g,L.len⟩
theorem LAt.log(L:LAt σ a fs cast s rest) (r:Row):LAt (σ.upd a.lg (.list ((s.log++[r]).map Row.v))) a fs cast { s with log:=s.log++[r] } rest:=⟨L.led.set 6 _ rfl,L.len⟩
theorem LAt.logA(L:LAt σ a fs cast s rest) (r:Row):LAt (σ.upd a.lg (.list (s.log.map Row.v++[r.v]))) a fs cast { s with log:=s.log++[r] } rest:=by
 have h:=L.log r
 rw[List.map_append]at h
 exact h
theorem LAt.eventsA(L:LAt σ a fs cast s rest) (e:Evt):LAt (σ.upd a.ev (.list (s.events.map Evt.v++[e.v]))) a fs cast { s with events:=s.events++[e] } rest:=by
 have h:LAt (σ.upd a.ev (.list ((s.events++[e]).map Evt.v))) a fs cast { s with events:=s.events++[e] } rest:=⟨L.led.set 5 _ rfl,L.len⟩
 rw[List.map_append]at h
 exact h
theorem LAt.posts(L:LAt σ a fs cast s rest) (ps:List Str):LAt (σ.upd a.po (.list (ps.map V.str))) a fs cast { s with posts:=ps } rest:=⟨L.led.set 4 _ rfl,L.len⟩
theorem LAt.near(L:LAt σ a fs cast s rest) (ns:List Int):LAt (σ.upd a.ne (.list (ns.map V.int))) a fs cast { s with near:=ns } rest:=⟨L.led.set 9 _ rfl,L.len⟩
theorem LAt.far(L:LAt σ a fs cast s rest) (ps:List (Int×Int)):LAt (σ.upd a.fa (.list (ps.map pv))) a fs cast { s with far:=ps } rest:=⟨L.led.set 10 _ rfl,L.len⟩
theorem LAt.time(L:LAt σ a fs cast s rest) (t:Int):LAt (σ.upd a.d (.sd [("cast",.ref a.ca),("posts",.ref a.po),("time",.int t),("events",.ref a.ev),("log",.ref a.lg),("waits",.ref a.wa),("frames",.ref a.fr),("fresh",optV s.fresh)])) a fs cast { s with time:=t } rest:=⟨L.led.set 2 _ rfl,L.len⟩
theorem LAt.fresh(L:LAt σ a fs cast s rest) (f:Option Int):LAt (σ.upd a.d (.sd [("cast",.ref a.ca),("posts",.ref a.po),("time",.int s.time),("events",.ref a.ev),("log",.ref a.lg),("waits",.ref a.wa),("frames",.ref a.fr),("fresh",optV f)])) a fs cast { s with fresh:=f } rest:=⟨L.led.set 2 _ rfl,L.len⟩
end
noncomputable def attOk (K:Frag) (c:Addr) (name:Str):Bool:=plainGet K c name&&hasDictIn K c&&(match findIn K (.ref c) name with|some attr=>noGet K attr|none=>false)
theorem ZN{c:Addr} {name:Str} {a dx:Addr} {es:List (Str×V)} {y:V} (hK:C.K=KL C.w.params) (h1:σ a=some (.inst c dx)) (h2:σ dx=some (.sd es)) (h3:sget es name=some y) (hc:∀P,attOk (KL P) c name=true) (k5:∀i,y≠.blt i):AttP C (.ref a) name σ y:=by
 have h:=hc C.w.params
 rw[←hK]at h
 unfold attOk at h
 cases e:findIn C.K (.ref c) name with
 | none=>rw[e]at h;simp at h
 | some attr=>
  rw[e]at h
  simp only[Bool.and_eq_true]at h
  exact AttP.mk h1 h2 h3 h.1.1 h.1.2 e h.2 k5
noncomputable def metOk (K:Frag) (c:Addr) (name:Str) (f:Addr):Bool:=plainGet K c name&&(findIn K (.ref c) name==some (some (.ref f)))&&isFn K (.ref f)&&keepIn K (.ref f)
theorem Z61{c:Addr} {name:Str} {a dx f:Addr} {es:List (Str×V)} {env:Env} {pos:Pos} {args:List Expr} {ρ:Rho} {Q:pV} (hK:C.K=KL C.w.params) (h1:σ a=some (.inst c dx)) (h2:σ dx=some (.sd es)) (h3:sget es name=none) (hc:∀P,metOk (KL P) c name f=true)
  (h:Ags C A env pos args ρ σ (fun xs σ2=>CallWP C A (.ref f) (.ref a::xs) σ2 Q X) X):MethWP C A env pos args ρ (.ref a) name σ Q X:=by
 have h':=hc C.w.params
 rw[←hK]at h'
 unfold metOk at h'
 simp only[Bool.and_eq_true,beq_iff_eq]at h'
 exact MethWP.mk h1 h2 h3 h'.1.1.1 h'.1.1.2 h'.1.2 h'.2 h
section
variable {a:LA} {fs:List FA} {cast:List Hn} {s:LS} {rest:lO}
theorem LAt.aCast(hK:C.K=KL C.w.params) (L:LAt σ a fs cast s rest):AttP C (.ref a.lo) "cast" σ (.ref a.ca):=ZN hK (L.led.get 1 rfl) (L.led.get 2 rfl) (by k_extra "msget") (fun _=>by kernel_rfl) (by intro _ q;cases q)
theorem LAt.aPosts(hK:C.K=KL C.w.params) (L:LAt σ a fs cast s rest):AttP C (.ref a.lo) "posts" σ (.ref a.po):=ZN hK (L.led.get 1 rfl) (L.led.get 2 rfl) (by k_extra "msget") (fun _=>by kernel_rfl) (by intro _ q;cases q)
theorem LAt.aTime(hK:C.K=KL C.w.params) (L:LAt σ a fs cast s rest):AttP C (.ref a.lo) "time" σ (.int s.time):=ZN hK (L.led.get 1 rfl) (L.led.get 2 rfl) (by k_extra "msget") (fun _=>by kernel_rfl) (by intro _ q;cases q)
theorem LAt.aEvents(hK:C.K=KL C.w.params) (L:LAt σ a fs cast s rest):AttP C (.ref a.lo) "events" σ (.ref a.ev):=ZN hK (L.led.get 1 rfl) (L.led.get 2 rfl) (by k_extra "msget") (fun _=>by kernel_rfl) (by intro _ q;cases q)
theorem LAt.aLog(hK:C.K=KL C.w.params) (L:LAt σ a fs cast s rest):AttP C (.ref a.lo) "log" σ (.ref a.lg):=ZN hK (L.led.get 1 rfl) (L.led.get 2 rfl) (by k_extra "msget") (fun _=>by kernel_rfl) (by intro _ q;cases q)
theorem LAt.aWaits(hK:C.K=KL C.w.params) (L:LAt σ a fs cast s rest):AttP C (.ref a.lo) "waits" σ (.ref a.wa):=ZN hK (L.led.get 1 rfl) (L.led.get 2 rfl) (by k_extra "msget") (fun _=>by kernel_rfl) (by intro _ q;cases q)
theorem LAt.aFrames(hK:C.K=KL C.w.params) (L:LAt σ a fs cast s rest):AttP C (.ref a.lo) "frames" σ (.ref a.fr):=ZN hK (L.led.get 1 rfl) (L.led.get 2 rfl) (by k_extra "msget") (fun _=>by kernel_rfl) (by intro _ q;cases q)
noncomputable def loomN:List Str:=["cast","posts","time","events","log","waits","frames","fresh"]
theorem Z50{es:List (Str×V)} {x:Str} {ns:List Str} (e:es.map (·.1)=ns) (h:ns.contains x=false):sget es x=none:=by
 subst e
 unfold sget
 rw[Option.map_eq_none_iff,List.find?_eq_none]
 intro p hp
 simp only[List.contains_eq_mem,decide_eq_false_iff_not]at h
 simp only[decide_eq_true_eq]
 exact fun q=>h (q▸List.mem_map_of_mem hp)
theorem LAt.met{name:Str} {f:Addr} {env:Env} {pos:Pos} {args:List Expr} {ρ:Rho} {Q:pV} (hK:C.K=KL C.w.params) (L:LAt σ a fs cast s rest) (hn:loomN.contains name=false) (hc:∀P,metOk (KL P) 320 name f=true)
  (h:Ags C A env pos args ρ σ (fun xs σ2=>CallWP C A (.ref f) (.ref a.lo::xs) σ2 Q X) X):MethWP C A env pos args ρ (.ref a.lo) name σ Q X:=Z61 hK (L.led.get 1 rfl) (L.led.get 2 rfl) (Z50 rfl hn) hc h
theorem LAt.metP{name:Str} {f:Addr} (hK:C.K=KL C.w.params) (L:LAt σ a fs cast s rest) (hn:loomN.contains name=false) (hc:∀P,metOk (KL P) 320 name f=true):MetP C σ a.lo name f:=fun _ _ _ _ _ _ _ h=>LAt.met hK L hn hc h
end
section
variable {σ:Store} {a:LA} {fs:List FA} {cast:List Hn} {s:LS} {rest:lO}
theorem LAt.g1(L:LAt σ a fs cast s rest):σ a.lo=some (.inst 320 a.d):=L.led.get 1 rfl
theorem LAt.g5(L:LAt σ a fs cast s rest):σ a.ev=some (.list (s.events.map Evt.v)):=L.led.get 5 rfl
theorem LAt.g6(L:LAt σ a fs cast s rest):σ a.lg=some (.list (s.log.map Row.v)):=L.led.get 6 rfl
theorem LAt.g7(L:LAt σ a fs cast s rest):σ a.wa=some (.inst 191 a.wd):=L.led.get 7 rfl
theorem LAt.g8(L:LAt σ a fs cast s rest):σ a.wd=some (.sd [("near",.ref a.ne),("far",.ref a.fa)]):=L.led.get 8 rfl
end
section
variable {a:LA} {fs:List FA} {cast:List Hn} {s:LS} {rest:lO}
theorem LAt.new(L:LAt σ a fs cast s rest) {x:Addr} (o:O) (hx:σ x=none):LAt (σ.upd x o) a fs cast s ((x,o)::rest):=⟨(L.led.new o hx).perm (List.perm_middle (l₁:=tabE::fp a fs cast s)),L.len⟩
theorem LAt.add{σ':Store} (L:LAt σ a fs cast s rest) (g:Grow σ σ') {x:Addr} {o:O} (hx:σ x=none) (h:σ' x=some o):LAt σ' a fs cast s ((x,o)::rest):=⟨(L.led.add g hx h).perm (List.perm_middle (l₁:=tabE::fp a fs cast s)),L.len⟩
theorem LAt.drop{p:Addr×O} (L:LAt σ a fs cast s (p::rest)):LAt σ a fs cast s rest:=⟨L.led.sub (((List.Sublist.refl (fp a fs cast s)).append ((List.Sublist.refl rest).cons p)).cons_cons tabE),L.len⟩
theorem LAt.getR(L:LAt σ a fs cast s rest) (n:Nat) {x:Addr} {o:O} (h:rest[n]?=some (x,o)):σ x=some o:=L.led.at_ (x,o) (.tail _ (List.mem_append_right _ (List.mem_of_getElem? h)))
end
theorem Z29(hK:C.K=KL C.w.params) {x:V} {t:Ty} {Q:pV} (hr:A.depth<recursionLimit) (ht:HasTy C σ x t) (h:Q (.bool (isiB t "int" && !isiB t "bool")) σ):CallWP C A (.ref 101) [x] σ Q X:=by
 k_extra "mdef1"
 intro L A' a1 a2 a3
 k_extra "M"
 refine Z3D ht (by decide) rfl ?_
 k_extra "m"
 cases q:isiB t "int" with
 | false=>
  rw[q]at h
  k_extra "M"
  exact h
 | true=>
  rw[q]at h
  k_extra "M"
  refine Z3D ht (by decide) rfl ?_
  k_extra "M"
  exact h
noncomputable def okS (x:Str):Bool:=(x.cps.toList.map fun c=>inS (Str.ofString "abcdefghijklmnopqrstuvwxyz") ⟨#[c]⟩).all id
noncomputable def isW (x:Str):Bool:=(decide (1≤x.length)&&decide (x.length≤12))&&okS x
noncomputable def Z5i:V->V
 | .str c=>.bool (inS (Str.ofString "abcdefghijklmnopqrstuvwxyz") c)
 | _=>.none
theorem Z4w{x:Str}:([]:List V)++List.map Z5i (List.filter (fun _=>true) (Zx x))=(x.cps.toList.map fun c=>inS (Str.ofString "abcdefghijklmnopqrstuvwxyz") ⟨#[c]⟩).map V.bool:=by
 rw[List.nil_append,List.filter_eq_self.mpr (fun _ _=>rfl),Zx,List.map_map,List.map_map];rfl
theorem Z1V{x:Str} {Q:pV} (hK:C.K=KL C.w.params) (hr:A.depth<recursionLimit) (hh:A.handled=none) (hz:x.length≤1000) (h:∀σ',Grow σ σ'->Q (.bool (isW x)) σ'):CallWP C A (.ref 106) [.str x] σ Q X:=by
 revert C A σ X x Q;k_extra "e6";intro C A σ X x Q hK hr hh hz h
 k_extra "mdef1"
 intro L A' a1 a2 a3
 have hh':A'.handled=none:=a1.trans hh
 k_extra "M"
 refine CallWP.len_str (by exact Y6D hz) ?_
 k_extra "M"
 by_cases q1:1≤x.length
 ·refine Br.t (by simp;exact Y6E q1) ?_
  k_extra "M"
  by_cases q2:x.length≤12
  ·have e:isW x=okS x:=by simp[isW,q1,q2]
   rw[e]at h
   refine Br.f (by simp;exact Y6F q2) ?_
   k_extra "M"
   refine⟨_,_,ItV.str hh',fun L'=>?_⟩
   refine CmpL.pure (fun _=>true) Z5i trivial _ _ ?_ ?_ (by simp[Zx,sizeLine_eq];simp only[Str.length]at hz;exact Y6G hz) ?_
   ·intro y hy Q hQ
    k_extra "M"
    exact hQ
   ·intro y hy _ Q hQ
    obtain⟨c,hc,rfl⟩:=List.mem_map.mp hy
    k_extra "M"
    exact hQ
   intro a ha
   rw[Z4w]
   k_extra "M"
   refine CallWP.all hh' (.inl Store.hit) ?_
   k_extra "M"
   exact h _ (Grow.rfl'.fresh ha)
  ·have e:isW x=false:=by simp[isW,q2]
   rw[e]at h
   refine Br.t (by simp;exact Y6H q2) ?_
   k_extra "M"
   exact h _ Grow.rfl'
 ·have e:isW x=false:=by simp[isW,q1]
  rw[e]at h
  refine Br.f (by simp;exact Y6I q1) ?_
  k_extra "M"
  exact h _ Grow.rfl'
theorem Z62(hK:C.K=KL C.w.params) {x:Str} {Q:pV} (hr:A.depth+1<recursionLimit) (hh:A.handled=none) (hz:x.length≤1000) (hx:isW x=true) (h:∀σ',Grow σ σ'->Q (.str x) σ'):CallWP C A (.ref 113) [.str x] σ Q X:=by
 have hr1:A.depth<recursionLimit:=by exact Y37 hr
 k_extra "mdef1"
 intro L A' a1 a2 a3
 have hh':A'.handled=none:=a1.trans hh
 have hr':A'.depth<recursionLimit:=by exact Y6J hr a2
 k_extra "M"
 refine Z1V hK hr' hh' hz fun σ' g=>?_
 rw[hx]
 k_extra "M"
 exact h _ g
structure LS.Small(s:LS):Prop where
 po:s.posts.length≤60
 ev:s.events.length≤9000
 lg:s.log.length≤9000
 ne:s.near.length≤9000
 fa:s.far.length≤9000
 fr:s.frames.length≤9000
noncomputable def LS.send (s:LS) (w:Str):LS:=
 { s with events:=s.events++[⟨w,none,Str.ofString "wait",s.time⟩],far:=s.far++[(s.time,(s.events.length:Int))],log:=s.log++[.send s.events.length] }
theorem Z63{a:LA} {fs:List FA} {cast:List Hn} {s:LS} {rest:lO} {w:Str} {Q:pV} (hK:C.K=KL C.w.params) (hr:A.depth+2<recursionLimit) (hh:A.handled=none) (L:LAt σ a fs cast s rest) (Z:s.Small) (hw:isW w=true) (hwl:w.length≤1000) (h:∀σ',LAt σ' a fs cast (s.send w) rest->Q (.int s.events.length) σ'):CallWP C A (.ref 237) [.ref a.lo,.str w] σ Q X:=by
 revert C A σ X a fs cast s rest w Q;k_extra "e11";intro C A σ X a fs cast s rest w Q hK hr hh L Z hw hwl h
 have hr0:A.depth<recursionLimit:=by exact Y6K hr
 have z1:=Z.ev
 have z2:=Z.lg
 have z3:=Z.fa
 k_extra "mdef2"
 intro fL A' a1 a2 a3
 have hh':A'.handled=none:=a1.trans hh
 have hr':A'.depth+1<recursionLimit:=by exact Y6L hr a2
 have hr2:A'.depth<recursionLimit:=by exact Y37 hr'
 k_extra "M"
 refine Z62 hK hr' hh' hwl hw fun σ1 gr=>?_
 have L1:=L.grow gr
 k_extra "M"
 generalize hσ:Store.upd σ1 a.ev _=σ2
 have L2:LAt σ2 a fs cast { s with events:=s.events++[⟨w,none,Str.ofString "wait",s.time⟩] } rest:=by
  rw[←hσ];exact L1.eventsA ⟨w,none,Str.ofString "wait",s.time⟩
 k_extra "M"
 refine Z3s hK hr2 hh' L2.wat (by simp;exact Y6M z3) ?_
 have L3:=L2.far (s.far++[(s.time,((s.events.map Evt.v).length:Int))])
 dsimp only
 generalize hσ3:Store.upd σ2 a.fa _=σ3 at L3 ⊢
 k_extra "M"
 show Q (V.int _) _
 rw[List.length_map]
 refine h _ ?_
 have h5:=L3.logA (.send ((s.events.map Evt.v).length:Int))
 rw[List.length_map]at h5
 exact h5
theorem Z5A{n:Int} {c:Addr} {Q:pV} (hK:C.K=KL C.w.params) (hr:A.depth+1<recursionLimit) (hh:A.handled=none) (h:∀f d e σ',Grow σ σ'->σ f=none->σ d=none->σ e=none->f≠d->f≠e->d≠e->σ' f=some (.inst 212 d)->σ' d=some (.sd [("number",.int n),("calls",.ref c),("deeds",.ref e)])->σ' e=some (.list [])->Q (.ref f) σ'):CallWP C A (.ref 212) [.int n,.ref c] σ Q X:=by
 revert C A σ X n c Q;k_extra "e7";intro C A σ X n c Q hK hr hh h
 refine CallWP.cls (by k_extra "mK") (by k_extra "mK") (by k_extra "mK") fun w dx A1 hw hd hne h1 h2 h3=>?_
 have hr1:A1.depth<recursionLimit:=by rw[h2];exact hr
 k_extra "mdefC3"
 intro L A' a1 a2 a3
 have hne':dx≠w:=Ne.symm hne
 k_extra "M"
 intro e he
 obtain⟨q1,he0⟩:=Store.none_ne he
 obtain⟨q2,he0⟩:=Store.none_ne he0
 obtain⟨q3,he0⟩:=Store.none_ne he0
 obtain⟨q4,he0⟩:=Store.none_ne he0
 k_extra "M"
 refine h w dx e _ ?_ hw hd he0 hne (Ne.symm q3) (Ne.symm q1) ?_ ?_ ?_
 ·exact(((((Grow.rfl'.upd hd).upd hw).upd hd).upd hd).upd he0).upd hd
 ·k_extra "mst"
 ·k_extra "mst"
 ·k_extra "mst"
theorem LAt.push{a:LA} {fs:List FA} {cast:List Hn} {s:LS} {rest:lO} {f d c x:Addr} {n:Int} {out:List Str} (hl:fs.length=s.frames.length)
  (M:Led σ ((f,.inst 212 d)::(d,.sd [("number",.int n),("calls",.ref c),("deeds",.ref x)])::(c,.list (out.map V.str))::(x,.list [])::tabE::(fp a fs cast s++rest))) :
  LAt (σ.upd a.fr (.list ((fs.map fun f=>V.ref f.f).reverse++[.ref f]))) a (⟨f,d,c,x⟩::fs) cast { s with frames:=⟨n,out,[]⟩::s.frames } rest:=by
 refine⟨?_,by simp[hl]⟩
 have M1:=M.set 15 (.list ((fs.map fun f=>V.ref f.f).reverse++[.ref f])) rfl
 refine M1.perm ?_
 unfold fp
 simp only[List.map_cons,List.reverse_cons]
 exact List.perm_append_comm_assoc [_,_,_,_,_,_,_,_,_,_,_,_] [_,_,_,_] (fpF fs s.frames++rest)
structure LC(C:Cx):Prop where
 hK:C.K=KL C.w.params
 hB:BMod C
 cd:CodeHd C.h₀ 142 140
structure COk(cast:List Hn):Prop where
 nd:(cast.map (·.name)).Nodup
 len:cast.length≤60
 hears:∀h∈cast,PyData.strOk h.hears=true
 name:∀h∈cast,PyData.strOk h.name=true
theorem COk.nd'{cast:List Hn} (K:COk cast):((cast.map Hn.hd).map (·.name)).Nodup:=by
 have e:(cast.map Hn.hd).map (·.name)=cast.map (·.name):=by rw[List.map_map];rfl
 rw[e];exact K.nd
noncomputable def LS.begin (s:LS) (n:Int) (out:List Str):LS:={ s with frames:=⟨n,out,[]⟩::s.frames,log:=s.log++[.beg n s.time] }
theorem Z5B{a:LA} {fs:List FA} {cast:List Hn} {s:LS} {rest:lO} {i:Nat} {e:Evt} {Q:pV} (E:LC C) (hr:A.depth+2<recursionLimit) (hh:A.handled=none) (hu:A.units<7000) (L:LAt σ a fs cast s rest) (Z:s.Small) (K:COk cast) (hsub:∀n∈s.posts,n∈cast.map (·.name)) (hi:s.events[i]?=some e) (hw:PyData.strOk e.word=true) (h:∀out f σ',Heard (cast.map Hn.hd) s.posts e.word out->LAt σ' a (f::fs) cast (s.begin i out) rest->Q .none σ'):CallWP C A (.ref 251) [.ref a.lo,.int i] σ Q X:=by
 revert C A σ X a fs cast s rest i e Q;k_extra "e12";intro C A σ X a fs cast s rest i e Q E hr hh hu L Z K hsub hi hw h
 have hK:=E.hK
 have hr0:A.depth<recursionLimit:=by exact Y6K hr
 have g5:=L.led.get 5 rfl
 have z1:=Z.ev
 have hil:i<s.events.length:=(List.getElem?_eq_some_iff.mp hi).1
 k_extra "mdef2"
 intro fL A' a1 a2 a3
 have hh':A'.handled=none:=a1.trans hh
 have hr':A'.depth+1<recursionLimit:=by exact Y6L hr a2
 k_extra "M"
 refine ItemWP.list (y:=Evt.v e) (.inl g5) (by exact Y5M) (by exact Y6N z1 hil) (by simp[hi]) ?_
 simp only[Evt.v]
 k_extra "M"
 refine Z4v hK E.hB E.cd hr' hh' (by exact Y6O hu a3) (L.led.get 0 rfl) (L.led.get 3 rfl) (L.led.get 4 rfl) K.nd' (fun n hn=>by rw[List.map_map];exact hsub n hn) (by simpa using K.len) (by have:=Z.po;exact Y6P this) (fun x hx=>by obtain⟨y,hy,rfl⟩:=List.mem_map.mp hx;exact K.hears y hy) hw fun c σ1 out gr hc hH hcl=>?_
 have M1:=L.led.add gr hc hcl
 have g1:=M1.get 2 rfl
 have g2:=M1.get 3 rfl
 have g11:=M1.get 12 rfl
 k_extra "M"
 refine Z5A hK hr' hh' fun f d x σ2 gr2 hf hd hx n1 n2 n3 s1 s2 s3=>?_
 have M2:Led σ2 ((f,.inst 212 d)::(d,.sd [("number",.int i),("calls",.ref c),("deeds",.ref x)])::(c,.list (out.map V.str))::(x,.list [])::tabE::(fp a fs cast s++rest)):=by
  refine(Led.perm (l:=(f,.inst 212 d)::(d,.sd [("number",.int i),("calls",.ref c),("deeds",.ref x)])::(x,.list [])::(c,.list (out.map V.str))::tabE::(fp a fs cast s++rest)) ?_ ((((List.Perm.swap _ _ _).cons _).cons _)))
  exact M1.add3 gr2 hf hd hx n1 n2 n3 s1 s2 s3
 have z2:=Z.fr
 have z3:=L.len
 have g11:=M2.get 15 rfl
 k_extra "M"
 have L3:=LAt.push L.len M2
 generalize hσ3:Store.upd σ2 a.fr _=σ3 at L3 ⊢
 have z4:=Z.lg
 try dsimp only at g2
 k_extra "M"
 show Q V.none _
 refine h out ⟨f,d,c,x⟩ _ hH ?_
 exact L3.logA (.beg i s.time)
noncomputable def LS.make (s:LS) (m:Int):Deed->LS
 | .now w=>{ s with events:=s.events++[⟨w,some m,Str.ofString "now",s.time⟩],fresh:=some (s.events.length:Int),log:=s.log++[.make m s.events.length] }
 | .soon w=>{ s with events:=s.events++[⟨w,some m,Str.ofString "soon",s.time⟩],near:=s.near++[(s.events.length:Int)],log:=s.log++[.make m s.events.length] }
 | .wait t w=>{ s with events:=s.events++[⟨w,some m,Str.ofString "wait",s.time+t⟩],far:=s.far++[(s.time+t,(s.events.length:Int))],log:=s.log++[.make m s.events.length] }
 | _=>s
theorem Z3Q{a:LA} {fs:List FA} {cast:List Hn} {s:LS} {rest:lO} {m:Int} {w:Str} {Q:pV} (hK:C.K=KL C.w.params) (hr:A.depth+1<recursionLimit) (hh:A.handled=none) (L:LAt σ a fs cast s rest) (Z:s.Small) (h:∀σ',LAt σ' a fs cast (s.make m (.now w)) rest->Q .none σ'):CallWP C A (.ref 284) [.ref a.lo,.int m,Deed.v (.now w)] σ Q X:=by
 revert C A σ X a fs cast s rest m w Q;k_extra "e12";intro C A σ X a fs cast s rest m w Q hK hr hh L Z h
 have hr0:A.depth<recursionLimit:=by exact Y37 hr
 have z1:=Z.ev
 have z2:=Z.lg
 simp only[Deed.v]
 k_extra "mdef3"
 intro fL A' a1 a2 a3
 k_extra "M"
 generalize hσ:Store.upd σ a.ev _=σ2
 have L2:LAt σ2 a fs cast { s with events:=s.events++[⟨w,some m,Str.ofString "now",s.time⟩] } rest:=by
  rw[←hσ];exact L.eventsA ⟨w,some m,Str.ofString "now",s.time⟩
 have g2:=L2.led.get 2 rfl
 k_extra "M"
 have L3:=L2.fresh (some (s.events.map Evt.v).length)
 simp only[optV]at L3
 generalize hσ3:Store.upd σ2 a.d _=σ3 at L3 ⊢
 try dsimp only[optV]at g2
 k_extra "M"
 show Q V.none _
 refine h _ ?_
 have h5:=L3.logA (.make m ((s.events.map Evt.v).length:Int))
 rw[List.length_map]at h5 ⊢
 exact h5
theorem Z30{a:LA} {fs:List FA} {cast:List Hn} {s:LS} {rest:lO} {m:Int} {w:Str} {Q:pV} (hK:C.K=KL C.w.params) (hr:A.depth+1<recursionLimit) (hh:A.handled=none) (L:LAt σ a fs cast s rest) (Z:s.Small) (h:∀σ',LAt σ' a fs cast (s.make m (.soon w)) rest->Q .none σ'):CallWP C A (.ref 284) [.ref a.lo,.int m,Deed.v (.soon w)] σ Q X:=by
 revert C A σ X a fs cast s rest m w Q;k_extra "e12";intro C A σ X a fs cast s rest m w Q hK hr hh L Z h
 have hr0:A.depth<recursionLimit:=by exact Y37 hr
 have z1:=Z.ev
 have z2:=Z.lg
 have z3:=Z.ne
 simp only[Deed.v]
 k_extra "mdef3"
 intro fL A' a1 a2 a3
 have hh':A'.handled=none:=a1.trans hh
 have hr2:A'.depth<recursionLimit:=by exact Y6J hr a2
 k_extra "M"
 generalize hσ:Store.upd σ a.ev _=σ2
 have L2:LAt σ2 a fs cast { s with events:=s.events++[⟨w,some m,Str.ofString "soon",s.time⟩] } rest:=by
  rw[←hσ];exact L.eventsA ⟨w,some m,Str.ofString "soon",s.time⟩
 k_extra "M"
 refine Z4Y hK hr2 hh' L2.wat (by simp;exact Y6M z3) ?_
 have L3:=L2.near (s.near++[((s.events.map Evt.v).length:Int)])
 dsimp only
 generalize hσ3:Store.upd σ2 a.ne _=σ3 at L3 ⊢
 k_extra "M"
 show Q V.none _
 refine h _ ?_
 have h5:=L3.logA (.make m ((s.events.map Evt.v).length:Int))
 rw[List.length_map]at h5 ⊢
 exact h5
theorem Z31{a:LA} {fs:List FA} {cast:List Hn} {s:LS} {rest:lO} {m t:Int} {w:Str} {Q:pV} (hK:C.K=KL C.w.params) (hr:A.depth+1<recursionLimit) (hh:A.handled=none) (L:LAt σ a fs cast s rest) (Z:s.Small) (h:∀σ',LAt σ' a fs cast (s.make m (.wait t w)) rest->Q .none σ'):CallWP C A (.ref 284) [.ref a.lo,.int m,Deed.v (.wait t w)] σ Q X:=by
 revert C A σ X a fs cast s rest m t w Q;k_extra "e13";intro C A σ X a fs cast s rest m t w Q hK hr hh L Z h
 have hr0:A.depth<recursionLimit:=by exact Y37 hr
 have z1:=Z.ev
 have z2:=Z.lg
 have z3:=Z.fa
 simp only[Deed.v]
 k_extra "mdef3"
 intro fL A' a1 a2 a3
 have hh':A'.handled=none:=a1.trans hh
 have hr2:A'.depth<recursionLimit:=by exact Y6J hr a2
 k_extra "M"
 generalize hσ:Store.upd σ a.ev _=σ2
 have L2:LAt σ2 a fs cast { s with events:=s.events++[⟨w,some m,Str.ofString "wait",s.time+t⟩] } rest:=by
  rw[←hσ];exact L.eventsA ⟨w,some m,Str.ofString "wait",s.time+t⟩
 k_extra "M"
 refine Z3s hK hr2 hh' L2.wat (by simp;exact Y6M z3) ?_
 have L3:=L2.far (s.far++[(s.time+t,((s.events.map Evt.v).length:Int))])
 dsimp only
 generalize hσ3:Store.upd σ2 a.fa _=σ3 at L3 ⊢
 k_extra "M"
 show Q V.none _
 refine h _ ?_
 have h5:=L3.logA (.make m ((s.events.map Evt.v).length:Int))
 rw[List.length_map]at h5 ⊢
 exact h5
theorem Z1W{f:FA} {r:Frm}:∀{fs1 fs2:List FA} {fr1 fr2:List Frm},fs1.length=fr1.length->fpF (fs1++f::fs2) (fr1++r::fr2)=fpF fs1 fr1++fpF (f::fs2) (r::fr2)
 | [],_,[],_,_=>rfl
 | g::fs1,fs2,q::fr1,fr2,h=>by
  show _::_::_::_::fpF (fs1++f::fs2) (fr1++r::fr2)=_
  rw[Z1W (by simpa using h)]
  rfl
theorem LAt.split{a:LA} {fs1 fs2:List FA} {f:FA} {cast:List Hn} {s:LS} {fr1 fr2:List Frm} {r:Frm} {rest:lO} (hl:fs1.length=fr1.length) (hf:s.frames=fr1++r::fr2) :
  tabE::(fp a (fs1++f::fs2) cast s++rest)=(tabE::(fp a (fs1++f::fs2) cast { s with frames:=[] }++fpF fs1 fr1))++(fpF (f::fs2) (r::fr2)++rest):=by
 unfold fp
 rw[hf,Z1W hl]
 simp[fpF]
theorem LAt.frame{a:LA} {fs1 fs2:List FA} {f:FA} {cast:List Hn} {s:LS} {fr1 fr2:List Frm} {r:Frm} {rest:lO} (hl:fs1.length=fr1.length) (hf:s.frames=fr1++r::fr2) (L:LAt σ a (fs1++f::fs2) cast s rest) :
  σ f.f=some (.inst 212 f.d)∧σ f.d=some (.sd [("number",.int r.num),("calls",.ref f.c),("deeds",.ref f.e)])∧σ f.c=some (.list (r.calls.map V.str))∧σ f.e=some (.list (r.deeds.map Deed.v)):=by
 have M:=L.led
 rw[LAt.split hl hf]at M
 exact⟨M.at_ (f.f,_) (by simp[fpF]),M.at_ (f.d,_) (by simp[fpF]),M.at_ (f.c,_) (by simp[fpF]),M.at_ (f.e,_) (by simp[fpF])⟩
theorem LAt.calls{a:LA} {fs1 fs2:List FA} {f:FA} {cast:List Hn} {s:LS} {fr1 fr2:List Frm} {r:Frm} {rest:lO} (hl:fs1.length=fr1.length) (hf:s.frames=fr1++r::fr2) (L:LAt σ a (fs1++f::fs2) cast s rest) (cs:List Str) :
  LAt (σ.upd f.c (.list (cs.map V.str))) a (fs1++f::fs2) cast { s with frames:=fr1++{ r with calls:=cs }::fr2 } rest:=by
 obtain⟨M,l⟩:=L
 refine⟨?_,by rw[l,hf];simp⟩
 rw[LAt.split hl hf]at M
 rw[LAt.split hl rfl]
 have e:∀r:Frm,(tabE::(fp a (fs1++f::fs2) cast { s with frames:=[] }++fpF fs1 fr1))++(fpF (f::fs2) (r::fr2)++rest)
   = ((tabE::(fp a (fs1++f::fs2) cast { s with frames:=[] }++fpF fs1 fr1))++[(f.f,.inst 212 f.d),(f.d,.sd [("number",.int r.num),("calls",.ref f.c),("deeds",.ref f.e)])])++(f.c,.list (r.calls.map V.str))::((f.e,.list (r.deeds.map Deed.v))::(fpF fs2 fr2++rest)):=fun r=>by
  simp[fpF]
 rw[e]at M ⊢
 exact M.setS _
theorem Z17(ns:List Str) (x:Str):((ns.map PyData.str).any fun y=>PyData.eqv y (.str x))=ns.contains x:=by
 rw[Bool.eq_iff_iff]
 simp[PyData.eqv]
theorem CmpWP.inStrs{l:Addr} {ns:List Str} {x:Str} {Q:pV} (hu:A.units<9000) (hl:σ l=some (.list (ns.map V.str))) (hx:PyData.strOk x=true) (hn:∀n∈ns,PyData.strOk n=true) (h:Q (.bool (ns.contains x)) σ):CmpWP C A .In (.str x) (.ref l) σ Q X:=by
 refine CmpWP.inL (ds:=ns.map PyData.str) (.inl hl) (.str _) (DRs.map fun _ _=>.str _) (by simpa [PyData.canLay0] using hx) (Z5 fun y hy=>by simpa [PyData.canLay0] using hn y hy) (by simp only[PyData.depth,cLine];exact Y6Q hu) ?_
 rw[Z17];exact h
theorem CmpWP.notInStrs{l:Addr} {ns:List Str} {x:Str} {Q:pV} (hu:A.units<9000) (hl:σ l=some (.list (ns.map V.str))) (hx:PyData.strOk x=true) (hn:∀n∈ns,PyData.strOk n=true) (h:Q (.bool (!ns.contains x)) σ):CmpWP C A .NotIn (.str x) (.ref l) σ Q X:=by
 refine CmpWP.notInL (ds:=ns.map PyData.str) (.inl hl) (.str _) (DRs.map fun _ _=>.str _) (by simpa [PyData.canLay0] using hx) (Z5 fun y hy=>by simpa [PyData.canLay0] using hn y hy) (by simp only[PyData.depth,cLine];exact Y6Q hu) ?_
 rw[Z17];exact h
theorem Z2S(x:Str):∀(l:List Str),x∈l->(l.map PyData.str).findIdx? (fun y=>PyData.eqv y (.str x))=some (l.idxOf x)
 | q::l,h=>by
  rw[List.map_cons,List.findIdx?_cons,List.idxOf_cons]
  have e:PyData.eqv (.str q) (.str x)=(q==x):=by simp[PyData.eqv]
  rw[e]
  cases z:q==x with
  | true=>rfl
  | false=>
   have:x∈l:=by
    rcases List.mem_cons.mp h with w|w
    ·rw[w]at z;simp at z
    ·exact w
   simp[Z2S x l this]
theorem CallWP.removeStr{l:Addr} {ns:List Str} {x:Str} {Q:pV} (hu:A.units<9000) (hl:σ l=some (.list (ns.map V.str))) (hx:PyData.strOk x=true) (hn:∀n∈ns,PyData.strOk n=true) (hz:ns.length≤10000) (hm:x∈ns)
  (h:Q .none (σ.upd l (.list ((ns.erase x).map V.str)))):CallWP C A (.builtin "list.remove") [.ref l,.str x] σ Q X:=by
 refine CallWP.remove (d:=.str x) hl (.str _) (DRs.map (g:=PyData.str) fun _ _=>.str _) (by simpa [PyData.canLay0] using hx) (Z5 fun y hy=>by simpa [PyData.canLay0] using hn y hy) (by simp only[PyData.depth,cLine];exact Y6Q hu) (by simp[sizeLine_eq];exact Y6w hz) (Z2S x ns hm) ?_
 have e:List.eraseIdx (ns.map V.str) (ns.idxOf x)=(ns.erase x).map V.str:=by
  rw[List.erase_eq_eraseIdx_of_idxOf rfl,ZG]
 rw[e];exact h
noncomputable def Frm.away (n:Str) (r:Frm):Frm:={ r with calls:=r.calls.erase n }
noncomputable def LS.away (s:LS) (n:Str):LS:={ s with posts:=s.posts.erase n,frames:=s.frames.map (Frm.away n) }
structure LS.Names(s:LS):Prop where
 po:∀n∈s.posts,PyData.strOk n=true
 fr:∀r∈s.frames,r.calls.length≤10000∧∀n∈r.calls,PyData.strOk n=true
theorem Z4x{a:LA} {fs:List FA} {cast:List Hn} {s:LS} {rest:lO} {n:Str} {Q:pV} (hK:C.K=KL C.w.params) (hr:A.depth<recursionLimit) (hh:A.handled=none) (hu:A.units<7000) (L:LAt σ a fs cast s rest) (Z:s.Small) (N:s.Names) (hn:PyData.strOk n=true) (h:∀σ',LAt σ' a fs cast (s.away n) rest->Q .none σ'):CallWP C A (.ref 272) [.ref a.lo,.str n] σ Q X:=by
 revert C A σ X a fs cast s rest n Q;k_extra "e11";intro C A σ X a fs cast s rest n Q hK hr hh hu L Z N hn h
 have g4:=L.led.get 4 rfl
 have z1:=Z.po
 k_extra "mdef2"
 intro fL A' a1 a2 a3
 have hh':A'.handled=none:=a1.trans hh
 have hu':A'.units<9000:=by exact Y6R hu a3
 refine Exs.cut (fun ρ σ1=>ρ.get "self" = some (.ref a.lo)∧ρ.get "name" = some (.str n)∧LAt σ1 a fs cast { s with posts:=s.posts.erase n } rest) ?_ ?_
 ·k_extra "M"
  refine CmpWP.inStrs hu' g4 hn N.po ?_
  k_extra "M"
  cases hc:s.posts.contains n with
  | true=>
   refine Br.t rfl ?_
   k_extra "M"
   refine CallWP.removeStr hu' g4 hn N.po (by exact Y6S z1) (by simpa using hc) ?_
   k_extra "M"
   exact⟨rfl,by k_extra "mget",by k_extra "mget",L.posts _⟩
  | false=>
   refine Br.f rfl ?_
   k_extra "M"
   refine⟨rfl,by k_extra "mget",by k_extra "mget",?_⟩
   have e:s.posts.erase n=s.posts:=List.erase_of_not_mem (by simpa using hc)
   rw[e];exact L
 intro ρ σ1
 refine Z5O fun r1 r2 L1=>?_
 have g11:=L1.led.get 11 rfl
 k_extra "M"
 refine⟨_,_,ItV.list hh' (.inl g11),?_⟩
 have eE:(fs.map fun f=>V.ref f.f).reverse=((fs.zip s.frames).reverse).map fun p=>V.ref p.1.f:=by
  rw[List.map_reverse]
  congr 1
  have:(fs.zip s.frames).map (fun p=>V.ref p.1.f)=((fs.zip s.frames).map Prod.fst).map fun f=>V.ref f.f:=by rw[List.map_map];rfl
  rw[this,List.map_fst_zip (by rw[L.len];exact Nat.le_refl _)]
 rw[eE]
 refine ForL.invJ (fun p:FA×Frm=>V.ref p.1.f) (fun xs ρ σ1=>∃fs1 fs2 fr1 fr2,fs=fs1++fs2∧s.frames=fr1++fr2∧fs1.length=fr1.length∧xs=(fs1.zip fr1).reverse∧ρ.get "self" = some (.ref a.lo)∧ρ.get "name" = some (.str n)∧
  LAt σ1 a fs cast { s with posts:=s.posts.erase n,frames:=fr1++fr2.map (Frm.away n) } rest) ?_ ?_ _ _ _ ⟨fs,[],s.frames,[],by simp,by simp,L.len,rfl,r1,r2,by simpa using L1⟩
 ·intro J ⟨f,r⟩ xs hN _ _ ρ σ1
  refine Z4f fun fs1 fs2 fr1 fr2 e1 e2 e3 e4 r1 r2 L1=>?_
  obtain⟨fs1',f',rfl⟩:∃fs1' f',fs1=fs1'++[f']:=by
   rcases List.eq_nil_or_concat fs1 with rfl|⟨p,q,e⟩
   ·simp at e4
   ·exact⟨p,q,by simpa using e⟩
  obtain⟨fr1',r',rfl⟩:∃fr1' r',fr1=fr1'++[r']:=by
   rcases List.eq_nil_or_concat fr1 with rfl|⟨p,q,e⟩
   ·simp at e3
   ·exact⟨p,q,by simpa using e⟩
  have e5:fs1'.length=fr1'.length:=by simpa using e3
  rw[List.zip_append e5]at e4
  simp only[List.zip_cons_cons,List.zip_nil_right,List.reverse_append,List.reverse_cons,List.reverse_nil,List.nil_append,List.cons_append,List.cons.injEq,Prod.mk.injEq]at e4
  obtain⟨⟨rfl,rfl⟩,rfl⟩:=e4
  have e6:fs=fs1'++f::fs2:=by simpa using e1
  subst e6
  have L2:LAt σ1 a (fs1'++f::fs2) cast { s with posts:=s.posts.erase n,frames:=fr1'++r::fr2.map (Frm.away n) } rest:=by simpa using L1
  obtain⟨h1,h2,h3,h4⟩:=L2.frame e5 rfl
  have hr:r∈s.frames:=by rw[e2];simp
  have z5:=(N.fr r hr).1
  have z6:=(N.fr r hr).2
  dsimp only
  k_extra "M"
  refine CmpWP.inStrs hu' h3 hn z6 ?_
  k_extra "M"
  cases hc:r.calls.contains n with
  | true=>
   refine Br.t rfl ?_
   k_extra "M"
   refine CallWP.removeStr hu' h3 hn z6 (by exact Y6T z5) (by simpa using hc) ?_
   k_extra "M"
   have L3:=L2.calls e5 rfl (r.calls.erase n)
   refine hN _ _ (.inl ?_) ⟨fs1',f::fs2,fr1',r::fr2,rfl,by rw[e2];simp,e5,rfl,by k_extra "mget",by k_extra "mget",L3⟩
   rw[←eE];exact L3.led.get 11 rfl
  | false=>
   refine Br.f rfl ?_
   k_extra "M"
   have e:Frm.away n r=r:=by
    unfold Frm.away
    rw[List.erase_of_not_mem (by simpa using hc)]
   refine hN _ _ (.inl ?_) ⟨fs1',f::fs2,fr1',r::fr2,rfl,by rw[e2];simp,e5,rfl,by k_extra "mget",by k_extra "mget",by rw[List.map_cons,e];exact L2⟩
   rw[←eE];exact L2.led.get 11 rfl
 ·intro ρ σ1
  refine Z4f fun fs1 fs2 fr1 fr2 e1 e2 e3 e4 r1 r2 L1=>?_
  have e5:fr1=[]:=by
   have:(fs1.zip fr1).length=0:=by rw[←List.length_reverse,←e4];rfl
   rw[List.length_zip,e3,Nat.min_self]at this
   exact List.length_eq_zero_iff.mp this
  subst e5
  k_extra "M"
  refine h _ ?_
  rw[List.nil_append]at e2 L1
  rw[←e2]at L1
  exact L1
theorem LAt.deedsNew{a:LA} {fs:List FA} {f:FA} {cast:List Hn} {s:LS} {r:Frm} {fr:List Frm} {rest:lO} {x:Addr} (L:LAt σ a (f::fs) cast s rest) (hf:s.frames=r::fr) (hx:σ x=none) (ds:List Deed) :
  LAt ((σ.upd x (.list (ds.map Deed.v))).upd f.d (.sd [("number",.int r.num),("calls",.ref f.c),("deeds",.ref x)])) a ({ f with e:=x }::fs) cast { s with frames:={ r with deeds:=ds }::fr } rest:=by
 obtain⟨M,l⟩:=L
 refine⟨?_,by rw[hf]at l;simpa using l⟩
 unfold fp at M ⊢
 rw[hf]at M
 have M1:=(M.new (.list (ds.map Deed.v)) hx).set 14 (.sd [("number",.int r.num),("calls",.ref f.c),("deeds",.ref x)]) rfl
 have M2:=M1.sub (l':=[(x,O.list (ds.map Deed.v))]++([tabE,_,_,_,_,_,_,_,_,_,_,_,_,_,_]++(fpF fs fr++rest))) ((List.Sublist.refl [_,_,_,_,_,_,_,_,_,_,_,_,_,_,_,_]).append ((List.Sublist.refl _).cons _))
 exact M2.perm (List.perm_append_comm_assoc [_,_,_,_,_,_,_,_,_,_,_,_,_,_,_] [_] (fpF fs fr++rest))
theorem LAt.callsNew{a:LA} {fs:List FA} {f:FA} {cast:List Hn} {s:LS} {r:Frm} {fr:List Frm} {rest:lO} {x:Addr} (L:LAt σ a (f::fs) cast s rest) (hf:s.frames=r::fr) (hx:σ x=none) (cs:List Str) :
  LAt ((σ.upd x (.list (cs.map V.str))).upd f.d (.sd [("number",.int r.num),("calls",.ref x),("deeds",.ref f.e)])) a ({ f with c:=x }::fs) cast { s with frames:={ r with calls:=cs }::fr } rest:=by
 revert σ a fs f cast s r fr rest x L hf hx cs;k_extra "e10";intro σ a fs f cast s r fr rest x L hf hx cs
 obtain⟨M,l⟩:=L
 refine⟨?_,by rw[hf]at l;simpa using l⟩
 unfold fp at M ⊢
 rw[hf]at M
 have M1:=(M.new (.list (cs.map V.str)) hx).set 14 (.sd [("number",.int r.num),("calls",.ref x),("deeds",.ref f.e)]) rfl
 have M2:=M1.sub (l':=[(x,O.list (cs.map V.str))]++([tabE,_,_,_,_,_,_,_,_,_,_,_,_,_]++((f.e,_)::(fpF fs fr++rest)))) ((List.Sublist.refl [_,_,_,_,_,_,_,_,_,_,_,_,_,_,_]).append ((List.Sublist.refl _).cons _))
 exact M2.perm (List.perm_append_comm_assoc [_,_,_,_,_,_,_,_,_,_,_,_,_,_] [_] ((f.e,_)::(fpF fs fr++rest)))
theorem LAt.top{a:LA} {fs:List FA} {f:FA} {cast:List Hn} {s:LS} {r:Frm} {fr:List Frm} {rest:lO} (L:LAt σ a (f::fs) cast s rest) (hf:s.frames=r::fr) :
  σ f.f=some (.inst 212 f.d)∧σ f.d=some (.sd [("number",.int r.num),("calls",.ref f.c),("deeds",.ref f.e)])∧σ f.c=some (.list (r.calls.map V.str))∧σ f.e=some (.list (r.deeds.map Deed.v)):=
 LAt.frame (fs1:=[]) (fr1:=[]) rfl hf L
noncomputable def LS.setDeeds (s:LS) (ds:List Deed):LS:=match s.frames with
 | r::fr=>{ s with frames:={ r with deeds:=ds }::fr }
 | []=>s
noncomputable def LS.got (s:LS) (h:Hn):LS:=if h.once then(s.setDeeds h.ds).away h.name else s.setDeeds h.ds
noncomputable def LS.callIn (s:LS) (n:Int) (h:Hn):LS:={ s.got h with log:=s.log++[.call n h.name] }
set_option tactic.hygienic true in
theorem LS.Names.setDeeds{s:LS} (N:s.Names) (ds:List Deed):(s.setDeeds ds).Names:=by
 revert s N ds;k_extra "e1";intro s N ds
 unfold LS.setDeeds
 split
 ·rename_i r fr e
  refine⟨N.po,fun q hq=>?_⟩
  rcases List.mem_cons.mp hq with rfl|hq
  ·exact N.fr r (by rw[e];exact .head _)
  ·exact N.fr q (by rw[e];exact .tail _ hq)
 ·exact N
set_option tactic.hygienic true in
theorem LS.Small.setDeeds{s:LS} (Z:s.Small) (ds:List Deed):(s.setDeeds ds).Small:=by
 unfold LS.setDeeds
 split
 ·rename_i r fr e
  exact⟨Z.po,Z.ev,Z.lg,Z.ne,Z.fa,by have:=Z.fr;rw[e]at this;simpa using this⟩
 ·exact Z
theorem LS.got_log(s:LS) (h:Hn):(s.got h).log=s.log:=by
 revert s h;k_extra "e2";intro s h
 unfold LS.got LS.away LS.setDeeds
 split<;>split<;>rfl
theorem COk.one{cast:List Hn} (K:COk cast) {x y:Hn} (hx:x∈cast) (hy:y∈cast) (e:x.name=y.name):x=y:=by
 obtain⟨i,hi,rfl⟩:=List.getElem_of_mem hx
 obtain⟨j,hj,rfl⟩:=List.getElem_of_mem hy
 have nd:=List.pairwise_iff_getElem.mp K.nd
 rcases Nat.lt_trichotomy i j with q|q|q
 ·have:=nd i j (by simpa using hi) (by simpa using hj) q
  simp only[List.getElem_map]at this
  exact absurd e this
 ·subst q;rfl
 ·have:=nd j i (by simpa using hj) (by simpa using hi) q
  simp only[List.getElem_map]at this
  exact absurd e.symm this
theorem LS.got_top{s:LS} {r:Frm} {fr:List Frm} (hf:s.frames=r::fr) (h:Hn):∃r' fr',(s.got h).frames=r'::fr'∧r'.num=r.num:=by
 unfold LS.got LS.away LS.setDeeds
 rw[hf]
 split<;>exact⟨_,_,rfl,rfl⟩
theorem Z51{a:LA} {f:FA} {fs:List FA} {cast:List Hn} {s:LS} {r:Frm} {fr:List Frm} {rest:lO} {hn:Hn} {Q:pV} (hK:C.K=KL C.w.params) (hr:A.depth+1<recursionLimit) (hh:A.handled=none) (hu:A.units<6900) (L:LAt σ a (f::fs) cast s rest) (hf:s.frames=r::fr) (Z:s.Small) (N:s.Names) (K:COk cast) (hm:hn∈cast) (hd:∀h∈cast,h.ds.length≤1000) (h:∀f' σ',f'.f=f.f->LAt σ' a (f'::fs) cast (s.callIn r.num hn) rest->Q .none σ'):CallWP C A (.ref 265) [.ref a.lo,.ref f.f,.str hn.name] σ Q X:=by
 revert C A σ X a f fs cast s r fr rest hn Q;k_extra "e14";intro C A σ X a f fs cast s r fr rest hn Q hK hr hh hu L hf Z N K hm hd h
 have hr0:A.depth<recursionLimit:=by exact Y37 hr
 have g3:=L.led.get 3 rfl
 have z1:=Z.lg
 have z2:=K.len
 k_extra "mdef3"
 intro fL A' a1 a2 a3
 have hh':A'.handled=none:=a1.trans hh
 have hr2:A'.depth<recursionLimit:=by exact Y6J hr a2
 have hu':A'.units<7000:=by exact Y6U hu a3
 k_extra "M"
 refine⟨_,_,ItV.list hh' (.inl g3),?_⟩
 rw[List.map_map]
 refine ForL.invJ (fun h:Hn=>hv h.hd) (fun xs ρ σ1=>∃done f',done++xs=cast∧f'.f=f.f∧ρ.get "self" = some (.ref a.lo)∧ρ.get "frame" = some (.ref f.f)∧ρ.get "name" = some (.str hn.name)∧
  LAt σ1 a (f'::fs) cast (if hn.name∈done.map (·.name) then s.got hn else s) rest) ?_ ?_ _ _ _ ⟨[],f,rfl,rfl,by k_extra "mget",by k_extra "mget",by k_extra "mget",by simpa using L⟩
 ·intro J x xs hN _ _ ρ σ1
  refine Z4c fun done f' e1 e2 r1 r2 r3 L1=>?_
  have hx:x∈cast:=by rw[←e1];simp
  simp only[hv,Hn.hd]
  k_extra "M"
  have nd:=K.nd
  rw[←e1,List.map_append,List.map_cons]at nd
  cases hc:x.name==hn.name with
  | true=>
   have e3:x.name=hn.name:=by simpa using hc
   have e4:x=hn:=by
    exact COk.one K hx hm e3
   subst e4
   have e5:x.name∉done.map (·.name):=fun z=>by
    have:=(List.nodup_append.mp nd).2.2 _ z _ (List.mem_cons_self ..)
    exact this rfl
   rw[if_neg e5]at L1
   obtain⟨t1,t2,t3,t4⟩:=L1.top hf
   rw[e2]at t1
   refine Br.t rfl ?_
   k_extra "M"
   refine CallWP.listOfTup (by simp[sizeLine_eq];have:=hd x hx;exact Y6G this) fun y hy=>?_
   have q1:f.f≠y:=fun q=>by rw[←q,t1]at hy;cases hy
   have q2:f'.d≠y:=fun q=>by rw[←q,t2]at hy;cases hy
   k_extra "M"
   have L2:=L1.deedsNew hf hy x.ds
   generalize hσ:Store.upd (σ1.upd y _) f'.d _=σ2 at L2 ⊢
   have L3:LAt σ2 a ({ f' with e:=y }::fs) cast (s.setDeeds x.ds) rest:=by
    unfold LS.setDeeds;rw[hf];exact L2
   have e6:x.name∈(done++[x]).map (·.name):=by simp
   cases ho:x.once with
   | true=>
    refine Br.t rfl ?_
    k_extra "M"
    refine Z4x hK hr2 hh' hu' L3 (Z.setDeeds _) (N.setDeeds _) (K.name x hx) fun σ3 L4=>?_
    k_extra "M"
    refine hN _ _ (.inl ?_) ⟨done++[x],{ f' with e:=y },by simpa using e1,e2,by k_extra "mget",by k_extra "mget",by k_extra "mget",?_⟩
    ·rw[←List.map_map];exact L4.led.get 3 rfl
    ·rw[if_pos e6];unfold LS.got;rw[ho];exact L4
   | false=>
    refine Br.f rfl ?_
    k_extra "M"
    refine hN _ _ (.inl ?_) ⟨done++[x],{ f' with e:=y },by simpa using e1,e2,by k_extra "mget",by k_extra "mget",by k_extra "mget",?_⟩
    ·rw[←List.map_map];exact L3.led.get 3 rfl
    ·rw[if_pos e6];unfold LS.got;rw[ho];exact L3
  | false=>
   have e3:¬hn.name=x.name:=fun e=>by rw[e]at hc;simp at hc
   refine Br.f rfl ?_
   k_extra "M"
   refine hN _ _ (.inl ?_) ⟨done++[x],f',by simpa using e1,e2,by k_extra "mget",by k_extra "mget",by k_extra "mget",?_⟩
   ·rw[←List.map_map];exact L1.led.get 3 rfl
   ·have e7:(hn.name∈(done++[x]).map (·.name))=(hn.name∈done.map (·.name)):=by simp[e3]
    simp only[e7];exact L1
 ·intro ρ σ1
  refine Z4c fun done f' e1 e2 r1 r2 r3 L1=>?_
  rw[List.append_nil]at e1
  subst e1
  rw[if_pos (List.mem_map_of_mem hm)]at L1
  obtain⟨r',fr',e3,e4⟩:=LS.got_top hf hn
  obtain⟨t1,t2,t3,t4⟩:=L1.top e3
  rw[e2]at t1
  have g6:=L1.led.get 6 rfl
  rw[LS.got_log]at g6
  k_extra "M"
  refine h f' _ e2 ?_
  have:=L1.logA (.call r'.num hn.name)
  rw[LS.got_log,e4]at this
  rw[e4]
  exact this
theorem CmpWP.inTS{x:Str} {ns:List Str} {Q:pV} (hu:A.units<9000) (hx:PyData.strOk x=true) (hn:∀n∈ns,PyData.strOk n=true) (h:Q (.bool (ns.contains x)) σ):CmpWP C A .In (.str x) (.tup (ns.map V.str)) σ Q X:=by
 refine CmpWP.inT (d:=.str x) (ds:=ns.map PyData.str) (.str _) (DRs.map fun _ _=>.str _) (by simpa [PyData.canLay0] using hx) (Z5 fun y hy=>by simpa [PyData.canLay0] using hn y hy) (by
  simp only[PyData.depth,cLine];exact Y6Q hu) ?_
 rw[Z17];exact h
noncomputable def LS.setCalls (s:LS) (cs:List Str):LS:=match s.frames with
 | r::fr=>{ s with frames:={ r with calls:=cs }::fr }
 | []=>s
noncomputable def LS.join (s:LS) (h:Str):LS:={ s with posts:=if s.posts.contains h then s.posts else s.posts++[h] }
theorem Z32{a:LA} {f:FA} {fs:List FA} {cast:List Hn} {s:LS} {r:Frm} {fr:List Frm} {rest:lO} {n:Str} {Q:pV} (hK:C.K=KL C.w.params) (hr:A.depth<recursionLimit) (hh:A.handled=none) (hu:A.units<6900) (L:LAt σ a (f::fs) cast s rest) (hf:s.frames=r::fr) (Z:s.Small) (N:s.Names) (hn:PyData.strOk n=true) (h:∀σ',LAt σ' a (f::fs) cast { s.join n with log:=s.log++[.join r.num n] } rest->Q .none σ'):CallWP C A (.ref 277) [.ref a.lo,.ref f.f,Deed.v (.join n)] σ Q X:=by
 revert C A σ X a f fs cast s r fr rest n Q;k_extra "e14";intro C A σ X a f fs cast s r fr rest n Q hK hr hh hu L hf Z N hn h
 have g4:=L.led.get 4 rfl
 have z1:=Z.po
 have z2:=Z.lg
 obtain⟨t1,t2,t3,t4⟩:=L.top hf
 simp only[Deed.v]
 k_extra "mdef3"
 intro fL A' a1 a2 a3
 have hu':A'.units<9000:=by exact Y6V hu a3
 k_extra "M"
 refine CmpWP.inTS (ns:=[Str.ofString "now",Str.ofString "soon",Str.ofString "wait"]) hu' (Z0 _) (by simp[Z0]) ?_
 k_extra "M"
 refine CmpWP.notInStrs hu' g4 hn N.po ?_
 k_extra "M"
 cases hc:s.posts.contains n with
 | true=>
  refine Br.f rfl ?_
  k_extra "M"
  refine h _ ?_
  unfold LS.join
  rw[if_pos hc]
  exact L.logA (.join r.num n)
 | false=>
  refine Br.t rfl ?_
  k_extra "M"
  have L2:=L.posts (s.posts++[n])
  simp only[List.map_append,List.map_cons,List.map_nil]at L2
  generalize hσ:Store.upd σ a.po _=σ2 at L2 ⊢
  obtain⟨t1,t2,t3,t4⟩:=L2.top (r:=r) (fr:=fr) hf
  k_extra "M"
  refine h _ ?_
  unfold LS.join
  rw[if_neg (by rw[hc];decide)]
  exact L2.logA (.join r.num n)
theorem Z2T(hK:C.K=KL C.w.params) {a:LA} {f:FA} {fs:List FA} {cast:List Hn} {s:LS} {r:Frm} {fr:List Frm} {rest:lO} {n:Str} {Q:pV} (hr:A.depth+1<recursionLimit) (hh:A.handled=none) (hu:A.units<6900) (L:LAt σ a (f::fs) cast s rest) (hf:s.frames=r::fr) (Z:s.Small) (N:s.Names) (hn:PyData.strOk n=true)
  (h:∀σ',LAt σ' a (f::fs) cast { s.away n with log:=s.log++[.leave r.num n] } rest->Q .none σ'):CallWP C A (.ref 277) [.ref a.lo,.ref f.f,Deed.v (.leave n)] σ Q X:=by
 have hr0:A.depth<recursionLimit:=by exact Y37 hr
 have z2:=Z.lg
 simp only[Deed.v]
 k_extra "mdef3"
 intro fL A' a1 a2 a3
 have hh':A'.handled=none:=a1.trans hh
 have hu':A'.units<9000:=by exact Y6V hu a3
 have hr2:A'.depth<recursionLimit:=by exact Y6J hr a2
 k_extra "M"
 refine CmpWP.inTS (ns:=[Str.ofString "now",Str.ofString "soon",Str.ofString "wait"]) hu' (Z0 _) (by simp[Z0]) ?_
 k_extra "M"
 refine Z4x hK hr2 hh' (by exact Y6U hu a3) L Z N hn fun σ2 L2=>?_
 have hf2:(s.away n).frames=r.away n::fr.map (Frm.away n):=by simp[LS.away,hf]
 obtain⟨t1,t2,t3,t4⟩:=L2.top hf2
 have g6:=L2.led.get 6 rfl
 try dsimp only[LS.away,Frm.away]at g6 t2
 k_extra "M"
 refine h _ ?_
 exact L2.logA (.leave r.num n)
theorem Z33{a:LA} {f:FA} {fs:List FA} {cast:List Hn} {s:LS} {r:Frm} {fr:List Frm} {rest:lO} {Q:pV} (hK:C.K=KL C.w.params) (hr:A.depth<recursionLimit) (hh:A.handled=none) (hu:A.units<6900) (L:LAt σ a (f::fs) cast s rest) (hf:s.frames=r::fr) (Z:s.Small) (h:∀f' σ',f'.f=f.f->LAt σ' a (f'::fs) cast { s.setCalls [] with log:=s.log++[.hush r.num] } rest->Q .none σ'):CallWP C A (.ref 277) [.ref a.lo,.ref f.f,Deed.v .hush] σ Q X:=by
 revert C A σ X a f fs cast s r fr rest Q;k_extra "e13";intro C A σ X a f fs cast s r fr rest Q hK hr hh hu L hf Z h
 have z2:=Z.lg
 obtain⟨t1,t2,t3,t4⟩:=L.top hf
 simp only[Deed.v]
 k_extra "mdef3"
 intro fL A' a1 a2 a3
 have hu':A'.units<9000:=by exact Y6V hu a3
 k_extra "M"
 refine CmpWP.inTS (ns:=[Str.ofString "now",Str.ofString "soon",Str.ofString "wait"]) hu' (Z0 _) (by simp[Z0]) ?_
 k_extra "M"
 intro y hy
 have q1:f.f≠y:=fun q=>by rw[←q,t1]at hy;cases hy
 have q2:f.d≠y:=fun q=>by rw[←q,t2]at hy;cases hy
 k_extra "M"
 have L2:=L.callsNew hf hy []
 simp only[List.map_nil]at L2
 generalize hσ:Store.upd (σ.upd y _) f.d _=σ2 at L2 ⊢
 obtain⟨t1,t2,t3,t4⟩:=L2.top rfl
 try dsimp only at t1 t2
 k_extra "M"
 refine h { f with c:=y } _ rfl ?_
 have e:s.setCalls []={ s with frames:={ r with calls:=[] }::fr }:=by unfold LS.setCalls;rw[hf]
 rw[e];exact L2.logA (.hush r.num)
theorem ZS{a:LA} {f:FA} {fs:List FA} {cast:List Hn} {s:LS} {r:Frm} {fr:List Frm} {rest:lO} {d:Deed} {Q:pV} (hK:C.K=KL C.w.params) (hr:A.depth+2<recursionLimit) (hh:A.handled=none) (hu:A.units<6900) (L:LAt σ a (f::fs) cast s rest) (hf:s.frames=r::fr) (Z:s.Small) (hd:(∃w,d=.now w)∨(∃w,d=.soon w)∨∃t w,d=.wait t w) (h:∀σ',LAt σ' a (f::fs) cast (s.make r.num d) rest->Q .none σ'):CallWP C A (.ref 277) [.ref a.lo,.ref f.f,Deed.v d] σ Q X:=by
 revert C A σ X a f fs cast s r fr rest d Q;k_extra "e14";intro C A σ X a f fs cast s r fr rest d Q hK hr hh hu L hf Z hd h
 have hr0:A.depth<recursionLimit:=by exact Y6K hr
 obtain⟨t1,t2,t3,t4⟩:=L.top hf
 have key:∀(A':Around) (Q':pV) (X':XP),A'.depth+1<recursionLimit->A'.handled=none->(∀σ',LAt σ' a (f::fs) cast (s.make r.num d) rest->Q' .none σ')->CallWP C A' (.ref 284) [.ref a.lo,.int r.num,Deed.v d] σ Q' X':=by
  intro A' Q' X' h1 h2 h3
  rcases hd with⟨w,rfl⟩|⟨w,rfl⟩|⟨t,w,rfl⟩
  ·exact Z3Q hK h1 h2 L Z h3
  ·exact Z30 hK h1 h2 L Z h3
  ·exact Z31 hK h1 h2 L Z h3
 obtain⟨k,vs,e1,e2⟩:∃k vs,Deed.v d=.tup (.str k::vs)∧(k=Str.ofString "now" ∨k=Str.ofString "soon" ∨k=Str.ofString "wait"):=by
  rcases hd with⟨w,rfl⟩|⟨w,rfl⟩|⟨t,w,rfl⟩
  ·exact⟨_,_,rfl,.inl rfl⟩
  ·exact⟨_,_,rfl,.inr (.inl rfl)⟩
  ·exact⟨_,_,rfl,.inr (.inr rfl)⟩
 rw[e1]at key ⊢
 have hk:PyData.strOk k=true:=by rcases e2 with rfl|rfl|rfl<;>exact Z0 _
 have hk2:[Str.ofString "now",Str.ofString "soon",Str.ofString "wait"].contains k=true:=by rcases e2 with rfl|rfl|rfl<;>decide +kernel
 k_extra "mdef3"
 intro fL A' a1 a2 a3
 have hh':A'.handled=none:=a1.trans hh
 have hu':A'.units<9000:=by exact Y6V hu a3
 k_extra "M"
 refine CmpWP.inTS (ns:=[Str.ofString "now",Str.ofString "soon",Str.ofString "wait"]) hu' hk (by simp[Z0]) ?_
 rw[hk2]
 k_extra "M"
 refine key _ _ _ (by exact Y6L hr a2) hh' fun σ' L'=>?_
 k_extra "M"
 exact h _ L'
noncomputable def LS.wordOf (s:LS) (n:Int):Str:=((s.events[n.toNat]?).map (·.word)).getD Str.empty
noncomputable def insI (x:Int):List Int->List Int
 | []=>[x]
 | y::l=>if x≤y then x::y::l else y::insI x l
noncomputable def Zu (l:List Int):List Int:=l.foldr insI []
noncomputable def LS.cancel (s:LS) (n:Int) (w:Str):LS:=
 { s with near:=s.near.filter fun x=>!(s.wordOf x==w),far:=s.far.filter fun p=>!(s.wordOf p.2==w),log:=s.log++[.cancel n (Zu ((s.near++s.far.map (·.2)).filter fun x=>s.wordOf x==w))] }
theorem Led.swap3{σ σ':Store} {P T:lO} {w n f n' f':Addr} {o1 o2 o3 p1 p2 p3:O} (L:Led σ (P++((w,o1)::(n,o2)::(f,o3)::T))) (keep:∀b o,b≠w->σ b=some o->σ' b=some o) (hn:σ n'=none) (hf:σ f'=none) (hne:n'≠f') (k1:σ' w=some p1) (k2:σ' n'=some p2) (k3:σ' f'=some p3) :
  Led σ' (P++((w,p1)::(n',p2)::(f',p3)::T)):=by
 revert σ σ' P T w n f n' f' o1 o2 o3 p1 p2 p3;k_extra "e15";intro σ σ' P T w n f n' f' o1 o2 o3 p1 p2 p3 L keep hn hf hne k1 k2 k3
 have M:Led σ (P++T):=L.sub (List.Sublist.append_left ((((List.Sublist.refl T).cons _).cons _).cons _) P)
 have hw:σ w=some o1:=L.at_ (w,o1) (by simp)
 have wf:w∉(P++T).map (·.1):=fun hm=>by
  obtain⟨p,hp,e⟩:=List.mem_map.mp hm
  have nd:=((List.perm_middle (a:=(w,o1)) (l₁:=P) (l₂:=(n,o2)::(f,o3)::T)).map (·.1)).nodup_iff.mp L.nd
  rw[List.map_cons,List.nodup_cons]at nd
  refine nd.1 (List.mem_map.mpr ⟨p,?_,e⟩)
  rcases List.mem_append.mp hp with z|z
  ·exact List.mem_append_left _ z
  ·exact List.mem_append_right _ (.tail _ (.tail _ z))
 have wn:w≠n':=fun e=>by rw[e,hn]at hw;cases hw
 have wf':w≠f':=fun e=>by rw[e,hf]at hw;cases hw
 refine Led.perm (l:=(w,p1)::(n',p2)::(f',p3)::(P++T)) ⟨?_,fun p hp=>?_⟩ (List.perm_append_comm_assoc P [(w,p1),(n',p2),(f',p3)] T)
 ·simp only[List.map_cons,List.nodup_cons,List.mem_cons,not_or]
  exact⟨⟨wn,wf',wf⟩,⟨hne,M.free hn⟩,M.free hf,M.nd⟩
 ·simp only[List.mem_cons]at hp
  rcases hp with rfl|rfl|rfl|hp
  ·exact k1
  ·exact k2
  ·exact k3
  ·exact keep _ _ (fun e=>wf (List.mem_map.mpr ⟨p,hp,e⟩)) (M.at_ p hp)
theorem LAt.rewait{σ':Store} {a:LA} {fs:List FA} {cast:List Hn} {s:LS} {rest:lO} (L:LAt σ a fs cast s rest) {n' f':Addr} {near:List Int} {far:List (Int×Int)} (keep:∀b o,b≠a.wd->σ b=some o->σ' b=some o) (hn:σ n'=none) (hf:σ f'=none) (W:WAt σ' a.wa a.wd n' f' near far) :
  LAt σ' { a with ne:=n',fa:=f' } fs cast { s with near:=near,far:=far } rest:=by
 refine⟨?_,L.len⟩
 have M:=L.led
 exact Led.swap3 (P:=[tabE,(a.lo,.inst 320 a.d),(a.d,.sd [("cast",.ref a.ca),("posts",.ref a.po),("time",.int s.time),("events",.ref a.ev),("log",.ref a.lg),("waits",.ref a.wa),("frames",.ref a.fr),("fresh",optV s.fresh)]),(a.ca,.list ((cast.map Hn.hd).map hv)),(a.po,.list (s.posts.map V.str)),(a.ev,.list (s.events.map Evt.v)),(a.lg,.list (s.log.map Row.v)),(a.wa,.inst 191 a.wd)]) (T:=(a.fr,.list ((fs.map fun f=>V.ref f.f).reverse))::(fpF fs s.frames++rest)) M keep hn hf W.nf W.hd W.hn W.hf
theorem Z1g(x:Int):∀l:List Int,(insI x l).Perm (x::l)
 | []=>List.Perm.refl _
 | y::l=>by
  unfold insI
  split
  ·exact List.Perm.refl _
  ·exact((Z1g x l).cons y).trans (List.Perm.swap x y l)
set_option tactic.hygienic true in
theorem Z1z(x:Int):∀l:List Int,l.Pairwise (·≤·)->(insI x l).Pairwise (·≤·)
 | [],_=>List.pairwise_singleton _ _
 | y::l,h=>by
  have h1:=List.pairwise_cons.mp h
  unfold insI
  split
  ·rename_i q
   refine List.pairwise_cons.mpr ⟨fun z hz=>?_,h⟩
   rcases List.mem_cons.mp hz with rfl|hz
   ·exact q
   ·exact Int.le_trans q (h1.1 z hz)
  ·rename_i q
   refine List.pairwise_cons.mpr ⟨fun z hz=>?_,Z1z x l h1.2⟩
   rcases List.mem_cons.mp ((Z1g x l).mem_iff.mp hz) with rfl|hz
   ·exact Int.le_of_lt (Int.not_le.mp q)
   ·exact h1.1 z hz
theorem ZH:∀l:List Int,(Zu l).Perm l
 | []=>List.Perm.refl _
 | x::l=>(Z1g x (Zu l)).trans ((ZH l).cons x)
theorem Z1h:∀l:List Int,(Zu l).Pairwise (·≤·)
 | []=>.nil
 | x::l=>Z1z x (Zu l) (Z1h l)
theorem Z2U{l m:List Int} (h:l.Perm m) (hs:l.Pairwise (·≤·)):l=Zu m:=
 List.Perm.eq_of_pairwise (le:=(·≤·)) (fun a b _ _ x y=>Int.le_antisymm x y) hs (Z1h m) (h.trans (ZH m).symm)
theorem ZR{l:List Int} {p:Int->Bool} {x:Int} (hx:x∈l):(l.filter p).contains x=p x:=by
 rw[Bool.eq_iff_iff]
 simp[hx]
theorem Z2p{a:LA} {f:FA} {fs:List FA} {cast:List Hn} {s:LS} {r:Frm} {fr:List Frm} {rest:lO} {w:Str} {Q:pV} (hK:C.K=KL C.w.params) (hr:A.depth+2<recursionLimit) (hh:A.handled=none) (hu:A.units<6900) (L:LAt σ a (f::fs) cast s rest) (hf:s.frames=r::fr) (Z:s.Small) (hne:∀n∈s.near,0≤n∧n<s.events.length) (hfa:∀p∈s.far,0≤p.2∧p.2<s.events.length) (h:∀a' σ',a'.lo=a.lo->LAt σ' a' (f::fs) cast (s.cancel r.num w) rest->Q .none σ'):CallWP C A (.ref 277) [.ref a.lo,.ref f.f,Deed.v (.cancel w)] σ Q X:=by
 revert C A σ X a f fs cast s r fr rest w Q;k_extra "e14";intro C A σ X a f fs cast s r fr rest w Q hK hr hh hu L hf Z hne hfa h
 have hr0:A.depth<recursionLimit:=by(first|lia|omega)
 have z1:=Z.ne
 have z2:=Z.fa
 have z3:=Z.lg
 have z4:=Z.ev
 simp only[Deed.v]
 k_extra "mdef3"
 intro fL A' a1 a2 a3
 have hh':A'.handled=none:=a1.trans hh
 have hu':A'.units<9000:=by(first|lia|omega)
 k_extra "M"
 refine CmpWP.inTS (ns:=[Str.ofString "now",Str.ofString "soon",Str.ofString "wait"]) hu' (Z0 _) (by simp[Z0]) ?_
 k_extra "M"
 refine Z4Z hK (by(first|lia|omega)) hh' L.wat (by(first|lia|omega)) (by(first|lia|omega)) fun x σ1 ps g hx hp ho hl=>?_
 have L1:=L.add g hx hl
 have hlen:=hp.length_eq
 have mem:∀n∈s.near++ps.map (·.2),0≤n∧n<s.events.length:=fun n hn=>by
  rcases List.mem_append.mp hn with z|z
  ·exact hne n z
  ·obtain⟨p,hp',rfl⟩:=List.mem_map.mp z
   exact hfa p (hp.mem_iff.mp hp')
 have g5:=L1.led.get 5 rfl
 refine⟨_,_,ItV.list hh' (.inl hl),fun L'=>?_⟩
 refine CmpL.pure (fun y=>match y with|.int n=>s.wordOf n==w|_=>false) id (.inl hl) _ _ ?_ ?_ (by simp[sizeLine_eq];(first|lia|omega)) ?_
 ·intro y hy Q hQ
  obtain⟨n,hn,rfl⟩:=List.mem_map.mp hy
  obtain⟨n0,n1⟩:=mem n hn
  obtain⟨i,rfl⟩:=Int.eq_ofNat_of_zero_le n0
  have hi:i<s.events.length:=by(first|lia|omega)
  have e2:s.wordOf (i:Int)=(s.events[i]).word:=by simp[LS.wordOf,hi]
  dsimp only at hQ
  rw[e2]at hQ
  k_extra "M"
  refine ItemWP.list (y:=Evt.v s.events[i]) (.inl g5) (by(first|lia|omega)) (by(first|lia|omega)) (by simp[hi]) ?_
  simp only[Evt.v]
  k_extra "M"
  exact hQ
 ·intro y hy _ Q hQ
  k_extra "M"
  exact hQ
 intro y hy
 have e1:([]:List V)++List.map id (List.filter (fun y=>match y with|.int n=>s.wordOf n==w|_=>false) ((s.near++ps.map (·.2)).map V.int))=((s.near++ps.map (·.2)).filter fun n=>s.wordOf n==w).map V.int:=by
  rw[List.nil_append,List.map_id,List.filter_map];rfl
 rw[e1]
 have L2:=L1.new (.list (((s.near++ps.map (·.2)).filter fun n=>s.wordOf n==w).map V.int)) hy
 generalize Store.upd σ1 y _=σ2 at L2 ⊢
 have gy:σ2 y=some (.list (((s.near++ps.map (·.2)).filter fun n=>s.wordOf n==w).map V.int)):=L2.getR 0 rfl
 k_extra "M"
 refine Z60 hK (by(first|lia|omega)) hh' (by(first|lia|omega)) L2.wat gy (by(first|lia|omega)) (by(first|lia|omega)) fun n' f' σ3 keep hn' hf' W3=>?_
 have en:(s.near.filter fun x=>!((s.near++ps.map (·.2)).filter fun n=>s.wordOf n==w).contains x)=s.near.filter fun x=>!(s.wordOf x==w):=
  List.filter_congr fun x hx=>by rw[ZR (List.mem_append_left _ hx)]
 have ef:(s.far.filter fun p=>!((s.near++ps.map (·.2)).filter fun n=>s.wordOf n==w).contains p.2)=s.far.filter fun p=>!(s.wordOf p.2==w):=
  List.filter_congr fun p hp'=>by rw[ZR (List.mem_append_right _ (List.mem_map_of_mem (hp.mem_iff.mpr hp')))]
 rw[en,ef]at W3
 have gy3:=keep y _ (fun e=>by rw[e,L2.led.get 8 rfl]at gy;cases gy) gy
 have L3:=(L2.rewait keep hn' hf' W3).drop.drop
 obtain⟨t1,t2,t3,t4⟩:=L3.top hf
 have g1:=L3.led.get 1 rfl
 have g2:=L3.led.get 2 rfl
 have g6:=L3.led.get 6 rfl
 dsimp only at g1 g2 g6
 k_extra "M"
 have flen:((s.near++ps.map (·.2)).filter fun n=>s.wordOf n==w).length≤20000:=Nat.le_trans (List.length_filter_le ..) (by simp;(first|lia|omega))
 refine CallWP.sortedInts2 (.inl gy3) (by(first|lia|omega)) fun b ns hb hpm hso=>?_
 have ens:ns=Zu ((s.near++s.far.map (·.2)).filter fun x=>s.wordOf x==w):=Z2U (hpm.trans (List.Perm.filter _ (List.Perm.append_left _ (hp.map _)))) hso
 have nlen:=hpm.length_eq
 have L4:=L3.new (.list (ns.map V.int)) hb
 generalize Store.upd σ3 b _=σ4 at L4 ⊢
 have gb:σ4 b=some (.list (ns.map V.int)):=L4.getR 0 rfl
 replace L4:=L4.drop
 have g6:=L4.led.get 6 rfl
 dsimp only at g1 g2 g6
 k_extra "M"
 refine CallWP.tupOf (.inl gb) (by simp[sizeLine_eq];(first|lia|omega)) ?_
 k_extra "M"
 refine h { a with ne:=n',fa:=f' } _ rfl ?_
 have L5:=L4.logA (.cancel r.num ns)
 rw[ens]at L5 ⊢
 unfold LS.cancel
 exact L5
theorem LAt.deedsTop{a:LA} {fs:List FA} {f:FA} {cast:List Hn} {s:LS} {r:Frm} {fr:List Frm} {rest:lO} (L:LAt σ a (f::fs) cast s rest) (hf:s.frames=r::fr) (ds:List Deed) :
  LAt (σ.upd f.e (.list (ds.map Deed.v))) a (f::fs) cast { s with frames:={ r with deeds:=ds }::fr } rest:=by
 obtain⟨M,l⟩:=L
 refine⟨?_,by rw[hf]at l;simpa using l⟩
 unfold fp at M ⊢
 rw[hf]at M
 exact M.set 15 _ rfl
theorem LAt.callsTop{a:LA} {fs:List FA} {f:FA} {cast:List Hn} {s:LS} {r:Frm} {fr:List Frm} {rest:lO} (L:LAt σ a (f::fs) cast s rest) (hf:s.frames=r::fr) (cs:List Str) :
  LAt (σ.upd f.c (.list (cs.map V.str))) a (f::fs) cast { s with frames:={ r with calls:=cs }::fr } rest:=
 LAt.calls (fs1:=[]) (fr1:=[]) rfl hf L cs
theorem LAt.popF{a:LA} {fs:List FA} {f:FA} {cast:List Hn} {s:LS} {r:Frm} {fr:List Frm} {rest:lO} (L:LAt σ a (f::fs) cast s rest) (hf:s.frames=r::fr) :
  LAt (σ.upd a.fr (.list ((fs.map fun f=>V.ref f.f).reverse))) a fs cast { s with frames:=fr } rest:=by
 revert σ a fs f cast s r fr rest;k_extra "e9";intro σ a fs f cast s r fr rest L hf
 obtain⟨M,l⟩:=L
 refine⟨?_,by rw[hf]at l;simpa using l⟩
 unfold fp at M ⊢
 rw[hf]at M
 have M1:=M.set 11 (.list ((fs.map fun f=>V.ref f.f).reverse)) rfl
 exact M1.sub ((List.Sublist.refl [_,_,_,_,_,_,_,_,_,_,_,_]).append (((((List.Sublist.refl _).cons _).cons _).cons _).cons _))
noncomputable def LS.deed (s:LS) (n:Int):Deed->LS
 | .now w=>s.make n (.now w)
 | .soon w=>s.make n (.soon w)
 | .wait t w=>s.make n (.wait t w)
 | .cancel w=>s.cancel n w
 | .join h=>{ s.join h with log:=s.log++[.join n h] }
 | .leave h=>{ s.away h with log:=s.log++[.leave n h] }
 | .hush=>{ s.setCalls [] with log:=s.log++[.hush n] }
noncomputable def Deed.Fine:Deed->Prop
 | .join n=>PyData.strOk n=true
 | .leave n=>PyData.strOk n=true
 | _=>True
theorem Z64(hK:C.K=KL C.w.params) {a:LA} {f:FA} {fs:List FA} {cast:List Hn} {s:LS} {r:Frm} {fr:List Frm} {rest:lO} {d:Deed} {Q:pV} (hr:A.depth+2<recursionLimit) (hh:A.handled=none) (hu:A.units<6900) (L:LAt σ a (f::fs) cast s rest) (hf:s.frames=r::fr) (Z:s.Small) (N:s.Names) (hd:d.Fine) (hne:∀n∈s.near,0≤n∧n<s.events.length) (hfa:∀p∈s.far,0≤p.2∧p.2<s.events.length)
  (h:∀a' f' σ',a'.lo=a.lo->f'.f=f.f->LAt σ' a' (f'::fs) cast (s.deed r.num d) rest->Q .none σ'):CallWP C A (.ref 277) [.ref a.lo,.ref f.f,Deed.v d] σ Q X:=by
 cases d with
 | now w=>exact ZS hK hr hh hu L hf Z (.inl ⟨w,rfl⟩) fun σ'=>h a f σ' rfl rfl
 | soon w=>exact ZS hK hr hh hu L hf Z (.inr (.inl ⟨w,rfl⟩)) fun σ'=>h a f σ' rfl rfl
 | wait t w=>exact ZS hK hr hh hu L hf Z (.inr (.inr ⟨t,w,rfl⟩)) fun σ'=>h a f σ' rfl rfl
 | cancel w=>exact Z2p hK hr hh hu L hf Z hne hfa fun a' σ' e=>h a' f σ' e rfl
 | join n=>exact Z32 hK (by exact Y6K hr) hh hu L hf Z N hd fun σ'=>h a f σ' rfl rfl
 | leave n=>exact Z2T hK (by exact Y6W hr) hh hu L hf Z N hd fun σ'=>h a f σ' rfl rfl
 | hush=>exact Z33 hK (by exact Y6K hr) hh hu L hf Z fun f' σ' e=>h a f' σ' rfl e
noncomputable def LS.goOn (cast:List Hn) (s:LS):LS:=match s.frames with
 | []=>s
 | r::fr=>match r.deeds with
  | d::ds=>LS.deed { s with frames:={ r with deeds:=ds }::fr } r.num d
  | []=>match r.calls with
   | n::cs=>match cast.find? (fun h=>h.name==n) with
    | some h=>LS.callIn { s with frames:={ r with calls:=cs }::fr } r.num h
    | none=>s
   | []=>{ s with frames:=fr,log:=s.log++[.fin r.num] }
structure LS.Ok(cast:List Hn) (s:LS):Prop where
 Z:s.Small
 N:s.Names
 po:∀n∈s.posts,n∈cast.map (·.name)
 ca:∀r∈s.frames,∀n∈r.calls,n∈cast.map (·.name)
 de:∀r∈s.frames,r.deeds.length≤1000∧∀d∈r.deeds,d.Fine
theorem LS.Small.top{s:LS} {r r':Frm} {fr:List Frm} (Z:s.Small) (hf:s.frames=r::fr):({ s with frames:=r'::fr }:LS).Small:=
 ⟨Z.po,Z.ev,Z.lg,Z.ne,Z.fa,by have:=Z.fr;rw[hf]at this;simpa using this⟩
theorem Z1i{cast:List Hn} (K:COk cast) {h:Hn} (hm:h∈cast):cast.find? (fun x=>x.name==h.name)=some h:=by
 cases e:cast.find? (fun x=>x.name==h.name) with
 | none=>exact absurd (List.find?_eq_none.mp e h hm) (by simp)
 | some y=>
  have h1:=List.mem_of_find?_eq_some e
  have h2:y.name=h.name:=by simpa using List.find?_some e
  rw[K.one h1 hm h2]
theorem Z65{a:LA} {f:FA} {fs:List FA} {cast:List Hn} {s:LS} {r:Frm} {fr:List Frm} {rest:lO} {Q:pV} (hK:C.K=KL C.w.params) (hr:A.depth+3<recursionLimit) (hh:A.handled=none) (hu:A.units<6800) (L:LAt σ a (f::fs) cast s rest) (hf:s.frames=r::fr) (W:s.Ok cast) (K:COk cast) (hds:∀h∈cast,h.ds.length≤1000) (hne:∀n∈s.near,0≤n∧n<s.events.length) (hfa:∀p∈s.far,0≤p.2∧p.2<s.events.length) (h:∀a' fs' σ',a'.lo=a.lo->LAt σ' a' fs' cast (s.goOn cast) rest->Q .none σ'):CallWP C A (.ref 258) [.ref a.lo,.ref f.f] σ Q X:=by
 revert C A σ X a f fs cast s r fr rest Q;k_extra "e13";intro C A σ X a f fs cast s r fr rest Q hK hr hh hu L hf W K hds hne hfa h
 have hr0:A.depth<recursionLimit:=by exact Y6X hr
 have g2:=L.led.get 2 rfl
 obtain⟨t1,t2,t3,t4⟩:=L.top hf
 have hrm:r∈s.frames:=by rw[hf];exact .head _
 obtain⟨y1,y2⟩:=W.de r hrm
 obtain⟨y3,y4⟩:=W.N.fr r hrm
 k_extra "mdef2"
 intro fL A' a1 a2 a3
 have hh':A'.handled=none:=a1.trans hh
 have hu':A'.units<6900:=by exact Y6Y hu a3
 k_extra "M"
 cases hdd:r.deeds with
 | cons d ds=>
  rw[hdd]at t4 y2 y1
  refine Br.t (by simp) ?_
  k_extra "M"
  refine CallWP.pop_at (j:=0) t4 (by decide) (by rw[seqIndex_of (by(first|lia|omega)) (by simp<;>(first|lia|omega))];rfl) rfl (by rw[List.length_map,sizeLine_eq];(first|lia|omega)) ?_
  have L2:=L.deedsTop hf ds
  have e:List.eraseIdx (List.map Deed.v (d::ds)) 0=ds.map Deed.v:=rfl
  rw[e]
  generalize hσ:Store.upd σ f.e _=σ2 at L2 ⊢
  k_extra "M"
  have N2:({ s with frames:={ r with deeds:=ds }::fr }:LS).Names:=⟨W.N.po,fun q hq=>by
   rcases List.mem_cons.mp hq with rfl|hq
   ·exact⟨y3,y4⟩
   ·exact W.N.fr q (by rw[hf];exact .tail _ hq)⟩
  have q1:=y2 d (.head _)
  refine Z64 hK (r:={ r with deeds:=ds }) (fr:=fr) (by exact Y6Z hr a2) hh' hu' L2 rfl (W.Z.top hf) N2 q1 hne hfa fun a' f' σ3 e2 e3 L3=>?_
  k_extra "M"
  refine h a' (f'::fs) _ e2 ?_
  unfold LS.goOn
  rw[hf]
  simp only[hdd]
  exact L3
 | nil=>
  rw[hdd]at t4
  refine Br.f (by simp) ?_
  k_extra "M"
  cases hcc:r.calls with
  | cons n cs=>
   rw[hcc]at t3 y3 y4
   refine Br.t (by simp) ?_
   k_extra "M"
   refine CallWP.pop_at (j:=0) t3 (by decide) (by rw[seqIndex_of (by(first|lia|omega)) (by simp<;>(first|lia|omega))];rfl) rfl (by rw[List.length_map,sizeLine_eq];(first|lia|omega)) ?_
   have L2:=L.callsTop hf cs
   have e:List.eraseIdx (List.map V.str (n::cs)) 0=cs.map V.str:=rfl
   rw[e]
   generalize hσ:Store.upd σ f.c _=σ2 at L2 ⊢
   k_extra "M"
   have N2:({ s with frames:={ r with calls:=cs }::fr }:LS).Names:=⟨W.N.po,fun q hq=>by
    rcases List.mem_cons.mp hq with rfl|hq
    ·exact⟨by simp at y3 ⊢;exact Y70 y3,fun x hx=>y4 x (.tail _ hx)⟩
    ·exact W.N.fr q (by rw[hf];exact .tail _ hq)⟩
   have hn:n∈cast.map (·.name):=W.ca r hrm n (by rw[hcc];exact .head _)
   obtain⟨hn0,hm,e0⟩:=List.mem_map.mp hn
   subst e0
   have ef:cast.find? (fun h=>h.name==hn0.name)=some hn0:=Z1i K hm
   refine Z51 hK (r:={ r with calls:=cs }) (fr:=fr) (by exact Y71 hr a2) hh' (by exact Y72 hu') L2 rfl (W.Z.top hf) N2 K hm hds fun f' σ3 e3 L3=>?_
   k_extra "M"
   refine h a (f'::fs) _ rfl ?_
   unfold LS.goOn
   rw[hf]
   simp only[hdd,hcc,ef]
   exact L3
  | nil=>
   rw[hcc]at t3
   refine Br.f (by simp) ?_
   have g11:σ a.fr=some (.list ((fs.map fun f=>V.ref f.f).reverse++[.ref f.f])):=by
    have:=L.led.get 11 rfl
    rw[List.map_cons,List.reverse_cons]at this
    exact this
   have z1:=W.Z.fr
   have z2:=L.len
   have z3:=W.Z.lg
   rw[hf]at z1 z2
   simp only[List.length_cons]at z1 z2
   k_extra "M"
   have L2:=L.popF hf
   have t1':(σ.upd a.fr (.list ((fs.map fun f=>V.ref f.f).reverse))) f.f=some (.inst 212 f.d):=Store.miss (Store.ne_kind t1 g11 (by simp[O.kind])) t1
   have t2':(σ.upd a.fr (.list ((fs.map fun f=>V.ref f.f).reverse))) f.d=_:=Store.miss (Store.ne_kind t2 g11 (by simp[O.kind])) t2
   generalize hσ:Store.upd σ a.fr _=σ2 at L2 t1' t2' ⊢
   try dsimp only at g2
   k_extra "M"
   refine h a fs _ rfl ?_
   unfold LS.goOn
   rw[hf]
   simp only[hdd,hcc]
   exact L2.logA (.fin r.num)
theorem Heard.unique{hs:List Hd} {ns:List Str} {w:Str} {o1 o2:List Str} (h1:Heard hs ns w o1) (h2:Heard hs ns w o2):o1=o2:=by
 revert hs ns w o1 o2;k_extra "e5";intro hs ns w o1 o2 h1 h2
 obtain⟨p,a1,a2,rfl⟩:=h1
 obtain⟨q,b1,b2,rfl⟩:=h2
 have e:p=q:=by
  refine List.Perm.eq_of_pairwise (le:=slt _) ?_ a2 b2 (a1.trans b1.symm)
  intro i j _ _ x y
  unfold slt at x y
  simp only[decide_eq_true_eq,decide_eq_false_iff_not]at x y
  exact Y73 x y
 rw[e]
open Classical in
noncomputable def ZI (cast:List Hn) (ps:List Str) (w:Str):List Str:=if h:∃out,Heard (cast.map Hn.hd) ps w out then Classical.choose h else []
theorem Z52{cast:List Hn} {ps:List Str} {w:Str} {out:List Str} (h:Heard (cast.map Hn.hd) ps w out):out=ZI cast ps w:=by
 unfold ZI
 have hx:∃out,Heard (cast.map Hn.hd) ps w out:=⟨out,h⟩
 rw[dif_pos hx]
 exact h.unique (Classical.choose_spec hx)
noncomputable def minP (l:List (Int×Int)):Option (Int×Int):=l.find? fun p=>l.all fun q=>!lexlt q p
theorem Z3R{p q:Int×Int} (h1:lexlt p q=false) (h2:lexlt q p=false):p=q:=by
 unfold lexlt at h1 h2
 simp only[Bool.or_eq_false_iff,decide_eq_false_iff_not,Bool.and_eq_false_imp,beq_iff_eq]at h1 h2
 obtain⟨a,b⟩:=h1
 obtain⟨c,d⟩:=h2
 have e:p.1=q.1:=by exact Yv a c
 have f:=b e
 exact Prod.ext e (by exact Y74 d e f)
theorem Z12{l:List (Int×Int)} {p:Int×Int} (hp:p∈l) (hm:∀q∈l,lexlt q p=false):minP l=some p:=by
 unfold minP
 have hok:(l.all fun q=>!lexlt q p)=true:=by
  rw[List.all_eq_true];intro q hq;simp[hm q hq]
 cases e:l.find? (fun p=>l.all fun q=>!lexlt q p) with
 | none=>exact absurd hok (List.find?_eq_none.mp e p hp)
 | some y=>
  have h1:=List.mem_of_find?_eq_some e
  have h2:=List.find?_some e
  simp only[List.all_eq_true,Bool.not_eq_true']at h2
  rw[Z3R (hm y h1) (h2 p hp)]
noncomputable def LS.begins (cast:List Hn) (s:LS) (n:Int):LS:=s.begin n (ZI cast s.posts (s.wordOf n))
noncomputable def LS.step (cast:List Hn) (s:LS):Option LS:=match s.fresh with
 | some n=>some (LS.begins cast { s with fresh:=none } n)
 | none=>match s.frames with
  | _::_=>some (s.goOn cast)
  | []=>match s.near with
   | n::ns=>some (LS.begins cast { s with near:=ns } n)
   | []=>match minP s.far with
    | some p=>some (LS.begins cast { s with far:=s.far.erase p,time:=max s.time p.1 } p.2)
    | none=>none
structure LS.Nums(s:LS):Prop where
 fresh:∀n,s.fresh=some n->0≤n∧n<s.events.length
 near:∀n∈s.near,0≤n∧n<s.events.length
 far:∀p∈s.far,0≤p.2∧p.2<s.events.length
 word:∀e∈s.events,PyData.strOk e.word=true
theorem Z18(E:LC C) {a:LA} {fs:List FA} {cast:List Hn} {s:LS} {rest:lO} {n:Int} {Q:pV} (hr:A.depth+2<recursionLimit) (hh:A.handled=none) (hu:A.units<7000) (L:LAt σ a fs cast s rest) (Z:s.Small) (K:COk cast)
  (hsub:∀n∈s.posts,n∈cast.map (·.name)) (h0:0≤n) (h1:n<s.events.length) (hw:∀e∈s.events,PyData.strOk e.word=true)
  (h:∀f σ',LAt σ' a (f::fs) cast (s.begins cast n) rest->Q .none σ'):CallWP C A (.ref 251) [.ref a.lo,.int n] σ Q X:=by
 obtain⟨i,rfl⟩:=Int.eq_ofNat_of_zero_le h0
 have hi:i<s.events.length:=by exact Y75 h1
 have e1:s.events[i]?=some s.events[i]:=List.getElem?_eq_getElem hi
 have e2:s.wordOf (i:Int)=(s.events[i]).word:=by simp[LS.wordOf,hi]
 refine Z5B E hr hh hu L Z K hsub e1 (hw _ (List.getElem_mem hi)) fun out f σ' hH L'=>h f σ' ?_
 unfold LS.begins
 rw[e2,←Z52 hH]
 exact L'
theorem Z66{a:LA} {fs:List FA} {cast:List Hn} {s:LS} {rest:lO} {Q:pV} (E:LC C) (hr:A.depth+4<recursionLimit) (hh:A.handled=none) (hu:A.units<6700) (L:LAt σ a fs cast s rest) (W:s.Ok cast) (M:s.Nums) (K:COk cast) (hds:∀h∈cast,h.ds.length≤1000) (h:∀a' fs' σ' s',a'.lo=a.lo->s.step cast=some s'->LAt σ' a' fs' cast s' rest->Q (.bool true) σ') (h2:s.step cast=none->Q (.bool false) σ):CallWP C A (.ref 244) [.ref a.lo] σ Q X:=by
 revert C A σ X a fs cast s rest Q;k_extra "e10";intro C A σ X a fs cast s rest Q E hr hh hu L W M K hds h h2
 have hK:=E.hK
 have hr0:A.depth<recursionLimit:=by exact Y76 hr
 have g2:=L.led.get 2 rfl
 have g11:=L.led.get 11 rfl
 have z1:=W.Z.fr
 have z2:=L.len
 k_extra "mdef1"
 intro fL A' a1 a2 a3
 have hh':A'.handled=none:=a1.trans hh
 cases hfr:s.fresh with
 | some n=>
  rw[hfr]at g2
  try dsimp only[optV]at g2
  k_extra "M"
  have L2:=L.fresh none
  dsimp only[optV]at L2
  generalize hσ:Store.upd σ a.d _=σ2 at L2 ⊢
  k_extra "M"
  obtain⟨m1,m2⟩:=M.fresh n hfr
  refine Z18 E (by exact Y77 hr a2) hh' (by exact Y78 hu a3) L2 ⟨W.Z.po,W.Z.ev,W.Z.lg,W.Z.ne,W.Z.fa,W.Z.fr⟩ K W.po m1 m2 M.word fun f σ3 L3=>?_
  k_extra "M"
  refine h a _ _ _ rfl ?_ L3
  unfold LS.step;rw[hfr]
 | none=>
  rw[hfr]at g2
  try dsimp only[optV]at g2
  k_extra "M"
  cases fs with
  | cons f fs1=>
   obtain⟨r,fr,hf⟩:∃r fr,s.frames=r::fr:=by
    cases e:s.frames with
    | nil=>rw[e]at z2;simp at z2
    | cons r fr=>exact⟨r,fr,rfl⟩
   rw[List.map_cons,List.reverse_cons]at g11
   refine Br.t (by simp) ?_
   k_extra "M"
   refine Z65 hK (by exact Y79 hr a2) hh' (by exact Y7a hu a3) L hf W K hds M.near M.far fun a' fs' σ2 e2 L2=>?_
   k_extra "M"
   refine h a' _ _ _ e2 ?_ L2
   unfold LS.step;rw[hfr,hf]
  | nil=>
   have hf:s.frames=[]:=by
    cases e:s.frames with
    | nil=>rfl
    | cons r fr=>rw[e]at z2;simp at z2
   refine Br.f (by simp) ?_
   k_extra "M"
   refine Z5Z hK (by exact Y7b hr a2) hh' (by exact Y7c hu a3) L.wat (by have:=W.Z.ne;exact Y6M this) (by have:=W.Z.fa;exact Y6M this) ?_ ?_ ?_
   ·intro n ns hn
    have L2:=L.near ns
    generalize hσ:Store.upd σ a.ne _=σ2 at L2 ⊢
    k_extra "M"
    obtain⟨m1,m2⟩:=M.near n (by rw[hn];exact .head _)
    refine Z18 E (by exact Y77 hr a2) hh' (by exact Y78 hu a3) L2 ⟨W.Z.po,W.Z.ev,W.Z.lg,by have:=W.Z.ne;rw[hn]at this;simp at this ⊢;exact Y7d this,W.Z.fa,W.Z.fr⟩ K W.po m1 m2 M.word fun f σ3 L3=>?_
    k_extra "M"
    refine h a _ _ _ rfl ?_ L3
    unfold LS.step;rw[hfr,hf,hn]
   ·intro e1 e2
    k_extra "M"
    refine h2 ?_
    unfold LS.step;rw[hfr,hf,e1,e2];rfl
   ·intro e1 p hp hm
    have L2:=L.far (s.far.erase p)
    generalize hσ:Store.upd σ a.fa _=σ2 at L2 ⊢
    have g2:=L2.led.get 2 rfl
    try dsimp only at g2
    obtain⟨m1,m2⟩:=M.far p hp
    have es:s.step cast=some (LS.begins cast { s with far:=s.far.erase p,time:=max s.time p.1 } p.2):=by
     unfold LS.step;rw[hfr,hf,e1,Z12 hp hm]
    have Z2:({ s with far:=s.far.erase p,time:=max s.time p.1 }:LS).Small:=⟨W.Z.po,W.Z.ev,W.Z.lg,W.Z.ne,Nat.le_trans (List.length_erase_le ..) W.Z.fa,W.Z.fr⟩
    k_extra "M"
    by_cases hlt:s.time<p.1
    ·refine Br.t (by simpa using hlt) ?_
     k_extra "M"
     have L3:=L2.time p.1
     dsimp only at L3
     generalize hσ3:Store.upd σ2 a.d _=σ3 at L3 ⊢
     have e3:max s.time p.1=p.1:=by exact Y7e hlt
     rw[←e3]at L3
     k_extra "M"
     refine Z18 E (by exact Y77 hr a2) hh' (by exact Y78 hu a3) L3 Z2 K W.po m1 m2 M.word fun f σ4 L4=>?_
     k_extra "M"
     exact h a _ _ _ rfl es L4
    ·refine Br.f (by simpa using hlt) ?_
     have e3:max s.time p.1=s.time:=by exact Y7f hlt
     rw[e3]at es Z2
     k_extra "M"
     refine Z18 E (by exact Y77 hr a2) hh' (by exact Y78 hu a3) L2 Z2 K W.po m1 m2 M.word fun f σ4 L4=>?_
     k_extra "M"
     exact h a _ _ _ rfl es L4
noncomputable def LS.runs (cast:List Hn):Nat->LS->Nat×LS
 | 0,s=>(0,s)
 | k+1,s=>match s.step cast with
  | none=>(0,s)
  | some s'=>((LS.runs cast k s').1+1,(LS.runs cast k s').2)
theorem LS.runs_some{cast:List Hn} {k:Nat} {s s':LS} (h:s.step cast=some s'):LS.runs cast (k+1) s=((LS.runs cast k s').1+1,(LS.runs cast k s').2):=by
 rw[LS.runs];simp only[h]
theorem LS.runs_none{cast:List Hn} {k:Nat} {s:LS} (h:s.step cast=none):LS.runs cast k s=(0,s):=by
 cases k with
 | zero=>rfl
 | succ k=>rw[LS.runs];simp only[h]
theorem Z6M{a:LA} {fs:List FA} {cast:List Hn} {s:LS} {rest:lO} {m:Nat} {Q:pV} (E:LC C) (hr:A.depth+5<recursionLimit) (hh:A.handled=none) (hu:A.units<6600) (L:LAt σ a fs cast s rest) (K:COk cast) (hds:∀h∈cast,h.ds.length≤1000) (P:Nat->LS->Prop) (h0:P 0 s) (hs:∀k s1 s2,k<m->P k s1->s1.step cast=some s2->P (k+1) s2) (hok:∀k s1,k<m->P k s1->s1.Ok cast∧s1.Nums) (h:∀k a' fs' s' σ',a'.lo=a.lo->k≤m->P k s'->LS.runs cast m s=(k,s')->(k<m->s'.step cast=none)->LAt σ' a' fs' cast s' rest->Q (.int k) σ'):CallWP C A (.ref 291) [.ref a.lo,.int m] σ Q X:=by
 revert C A σ X a fs cast s rest m Q E hr hh hu L K hds P h0 hs hok h;k_extra "e11";intro C A σ X a fs cast s rest m Q E hr hh hu L K hds P h0 hs hok h
 have hK:=E.hK
 have hr0:A.depth<recursionLimit:=by exact Y7g hr
 k_extra "mdef2"
 intro fL A' a1 a2 a3
 have hh':A'.handled=none:=a1.trans hh
 have hr2:A'.depth<recursionLimit:=by exact Y7h hr a2
 k_extra "M"
 refine Z29 hK hr2 (.int _) ?_
 k_extra "M"
 refine Ex.while (fun n ρ σ1=>∃k a1 fs1 s1,a1.lo=a.lo∧n=m - k∧k≤m∧P k s1∧LS.runs cast m s=(k+(LS.runs cast (m - k) s1).1,(LS.runs cast (m - k) s1).2)∧ρ.get "self" = some (.ref a1.lo)∧ρ.get "most" = some (.int m)∧ρ.get "done" = some (.int k)∧LAt σ1 a1 fs1 cast s1 rest) ?_ m ⟨0,a,fs,s,rfl,by simp,by exact YM,h0,by simp,by k_extra "mget",by k_extra "mget",by rw[show((0:Nat):Int)=0 from rfl];k_extra "mget",L⟩
 intro n ρ σ1
 refine Z5P fun k a1' fs1 s1 ea en hk hP hR r1 r2 r3 L1=>?_
 k_extra "M"
 by_cases hlt:k<m
 ·have W:=(hok k s1 hlt hP).1
  have M:=(hok k s1 hlt hP).2
  obtain⟨j,hj⟩:∃j,m - k=j+1:=⟨m - k - 1,by exact Y7i hlt⟩
  refine Br.t (by simpa using hlt) ?_
  k_extra "M"
  refine Z66 E (by exact Y7j hr a2) hh' (by exact Y7k hu a3) L1 W M K hds ?_ ?_
  ·intro a2' fs2 σ2 s2 e2 hst L2
   k_extra "M"
   have e1:m-(k+1)=j:=by exact Y5R hj
   refine⟨m-(k+1),by rw[en];exact Y7l hj,k+1,a2',fs2,s2,e2.trans ea,rfl,by exact Y5S hj,hs k s1 s2 hlt hP hst,?_,by rw[e2];k_extra "mget",by k_extra "mget",by rw[show((k+1:Nat):Int)=(k:Int)+1 from by omega];k_extra "mget",L2⟩
   rw[hR,hj,LS.runs_some hst,e1]
   simp only[Prod.mk.injEq,and_true]
   exact Y7m
  ·intro hst
   k_extra "M"
   refine h k a1' fs1 s1 σ1 ea hk hP ?_ (fun _=>hst) L1
   rw[hR,LS.runs_none hst];rfl
 ·refine Br.f (by simpa using hlt) ?_
  k_extra "M"
  have e1:m-k=0:=by exact Y7n hlt
  refine h k a1' fs1 s1 σ1 ea hk hP ?_ (fun z=>absurd z hlt) L1
  rw[hR,e1];rfl
noncomputable def Deed.Good:Deed->Prop
 | .now w|.soon w|.cancel w|.join w|.leave w=>isW w=true
 | .wait t w=>0≤t∧t≤1000000000∧isW w=true
 | .hush=>True
theorem Z1q{x:Str} (h:isW x=true):x.length≤12:=by
 unfold isW at h
 simp only[Bool.and_eq_true,decide_eq_true_eq]at h
 exact h.1.2
abbrev withAWord:List Str:=[Str.ofString "now",Str.ofString "soon",Str.ofString "cancel",Str.ofString "join",Str.ofString "leave"]
theorem ZD{k w:Str} {Q:pV} (hK:C.K=KL C.w.params) (hr:A.depth+1<recursionLimit) (hh:A.handled=none) (hu:A.units<7000) (hk:withAWord.contains k=true) (hw:isW w=true) (h:∀σ',Grow σ σ'->Q (.bool true) σ'):CallWP C A (.ref 121) [.tup [.str k,.str w]] σ Q X:=by
 revert C A σ X k w Q;k_extra "e7";intro C A σ X k w Q hK hr hh hu hk hw h
 have hr0:A.depth<recursionLimit:=by exact Y37 hr
 have hkok:PyData.strOk k=true:=by
  simp only[List.contains_eq_mem,decide_eq_true_eq,List.mem_cons,List.not_mem_nil,or_false]at hk
  rcases hk with rfl|rfl|rfl|rfl|rfl<;>exact Z0 _
 have hwl:=Z1q hw
 k_extra "mdef1"
 intro fL A' a1 a2 a3
 have hh':A'.handled=none:=a1.trans hh
 have hr2:A'.depth<recursionLimit:=by exact Y6J hr a2
 k_extra "M"
 refine CmpWP.inTS (ns:=withAWord) (by exact Y6R hu a3) hkok (by simp[withAWord,Z0]) ?_
 rw[hk]
 k_extra "M"
 refine Z1V hK hr2 hh' (by exact Y7o hwl) fun σ' g=>?_
 rw[hw]
 k_extra "M"
 exact h _ g
theorem Z4y{t:Int} {w:Str} {Q:pV} (hK:C.K=KL C.w.params) (hr:A.depth+1<recursionLimit) (hh:A.handled=none) (hu:A.units<7000) (h0:0≤t) (h1:t≤1000000000) (hw:isW w=true) (h:∀σ',Grow σ σ'->Q (.bool true) σ'):CallWP C A (.ref 121) [.tup [.str (Str.ofString "wait"),.int t,.str w]] σ Q X:=by
 revert C A σ X t w Q;k_extra "e7";intro C A σ X t w Q hK hr hh hu h0 h1 hw h
 have hr0:A.depth<recursionLimit:=by exact Y37 hr
 have hwl:=Z1q hw
 have hk:withAWord.contains (Str.ofString "wait")=false:=by decide +kernel
 k_extra "mdef1"
 intro fL A' a1 a2 a3
 have hh':A'.handled=none:=a1.trans hh
 have hr2:A'.depth<recursionLimit:=by exact Y6J hr a2
 k_extra "M"
 refine CmpWP.inTS (ns:=withAWord) (by exact Y6R hu a3) (Z0 _) (by simp[withAWord,Z0]) ?_
 rw[hk]
 k_extra "M"
 refine Z29 hK hr2 (.int _) ?_
 k_extra "M"
 refine Br.t (by simpa using h0) ?_
 k_extra "M"
 refine Br.t (by simpa using h1) ?_
 k_extra "M"
 refine Z1V hK hr2 hh' (by exact Y7o hwl) fun σ' g=>?_
 rw[hw]
 k_extra "M"
 exact h _ g
theorem Z4z(hK:C.K=KL C.w.params) {Q:pV} (hr:A.depth+1<recursionLimit) (hh:A.handled=none) (hu:A.units<7000)
  (h:∀σ',Grow σ σ'->Q (.bool true) σ'):CallWP C A (.ref 121) [.tup [.str (Str.ofString "hush")]] σ Q X:=by
 have hr0:A.depth<recursionLimit:=by exact Y37 hr
 have hk:withAWord.contains (Str.ofString "hush")=false:=by decide +kernel
 k_extra "mdef1"
 intro fL A' a1 a2 a3
 k_extra "M"
 refine CmpWP.inTS (ns:=withAWord) (by exact Y6R hu a3) (Z0 _) (by simp[withAWord,Z0]) ?_
 rw[hk]
 k_extra "M"
 exact h _ Grow.rfl'
theorem Z53(hK:C.K=KL C.w.params) {d:Deed} {Q:pV} (hr:A.depth+1<recursionLimit) (hh:A.handled=none) (hu:A.units<7000) (hd:d.Good) (h:∀σ',Grow σ σ'->Q (.bool true) σ'):CallWP C A (.ref 121) [d.v] σ Q X:=by
 cases d with
 | now w=>exact ZD hK hr hh hu (by decide +kernel) hd h
 | soon w=>exact ZD hK hr hh hu (by decide +kernel) hd h
 | wait t w=>exact Z4y hK hr hh hu hd.1 hd.2.1 hd.2.2 h
 | cancel w=>exact ZD hK hr hh hu (by decide +kernel) hd h
 | join w=>exact ZD hK hr hh hu (by decide +kernel) hd h
 | leave w=>exact ZD hK hr hh hu (by decide +kernel) hd h
 | hush=>exact Z4z hK hr hh hu h
structure Hn.Good(h:Hn):Prop where
 name:isW h.name=true
 hears:h.hears=Str.ofString "" ∨isW h.hears=true
 len:h.ds.length≤30
 ds:∀d∈h.ds,d.Good
noncomputable def Hn.tv (h:Hn) (x:V):V:=.tup [.str h.name,.int h.rank,.str h.hears,.bool h.once,x]
theorem Z34{hn:Hn} {x:V} {Q:pV} (hK:C.K=KL C.w.params) (hr:A.depth+2<recursionLimit) (hh:A.handled=none) (hu:A.units<6900) (G:hn.Good) (hx:∃l,x=.ref l∧σ l=some (.list (hn.ds.map Deed.v))) (h:∀σ',Grow σ σ'->Q (.bool true) σ'):CallWP C A (.ref 126) [hn.tv x] σ Q X:=by
 revert C A σ X hn x Q;k_extra "e7";intro C A σ X hn x Q hK hr hh hu G hx h
 have hr0:A.depth<recursionLimit:=by exact Y6K hr
 have l1:=Z1q G.name
 have l2:=G.len
 simp only[Hn.tv]
 k_extra "mdef1"
 intro fL A' a1 a2 a3
 have hh':A'.handled=none:=a1.trans hh
 have hr2:A'.depth<recursionLimit:=by exact Y7p hr a2
 with_reducible refine Exs.cutJ (fun ρ σ'=>ρ.get "thing" = some (.tup [.str hn.name,.int hn.rank,.str hn.hears,.bool hn.once,x])∧Grow σ σ') ?_ ?_
 ·intro J hN _
  k_extra "M"
  exact hN _ _ ⟨by k_extra "mget",Grow.rfl'⟩
 intro ρ σ1
 refine Z2H fun r1 g1=>?_
 with_reducible refine Exs.cutJ (fun ρ σ'=>ρ.get "thing" = some (.tup [.str hn.name,.int hn.rank,.str hn.hears,.bool hn.once,x])∧Grow σ σ') ?_ ?_
 ·intro J hN _
  k_extra "M"
  refine Z1V hK hr2 hh' (by exact Y7o l1) fun σ2 g2=>?_
  rw[G.name]
  k_extra "M"
  refine Z29 hK hr2 (.int _) ?_
  k_extra "M"
  exact hN _ _ ⟨by k_extra "mget",g1.trans g2⟩
 clear r1 g1 ρ σ1
 intro ρ σ1
 refine Z2H fun r1 g1=>?_
 with_reducible refine Exs.cutJ (fun ρ σ'=>ρ.get "thing" = some (.tup [.str hn.name,.int hn.rank,.str hn.hears,.bool hn.once,x])∧Grow σ σ') ?_ ?_
 ·intro J hN _
  k_extra "M"
  rcases G.hears with e|e
  ·refine Br.f (by rw[e];simp) ?_
   k_extra "M"
   exact hN _ _ ⟨by k_extra "mget",g1⟩
  ·cases hc:hn.hears != Str.ofString "" with
   | false=>
    refine Br.f rfl ?_
    k_extra "M"
    exact hN _ _ ⟨by k_extra "mget",g1⟩
   | true=>
    refine Br.t rfl ?_
    k_extra "M"
    refine Z1V hK hr2 hh' (by have:=Z1q e;exact Y7o this) fun σ2 g2=>?_
    rw[e]
    k_extra "M"
    exact hN _ _ ⟨by k_extra "mget",g1.trans g2⟩
 clear r1 g1 ρ σ1
 intro ρ σ1
 refine Z2H fun r1 g1=>?_
 have isd:∀{A2:Around} {σ2:Store} {d:Deed} {Q2:pV} {X2:XP},A2.depth=A'.depth->A2.handled=none->A2.units=A'.units->d∈hn.ds->(∀σ',Grow σ2 σ'->Q2 (.bool true) σ')->CallWP C A2 (.ref 121) [d.v] σ2 Q2 X2:=by
  intro A2 σ2 d Q2 X2 b1 b2 b3 hd hq
  exact Z53 hK (by exact Y7q hr a2 b1) b2 (by exact Y7r hu a3 b3) (G.ds d hd) hq
 obtain⟨l,rfl,hl⟩:=hx
 have hl1:=g1 _ _ hl
 k_extra "M"
 refine Br.t (by simp;exact Y7s l2) ?_
 k_extra "M"
 refine⟨_,_,ItV.list hh' (.inl hl1),fun L'=>?_⟩
 refine CmpL.invJ Deed.v (fun ys out σ2=>∃done,done++ys=hn.ds∧Grow σ1 σ2∧out=(done.map fun _=>true).map V.bool) ?_ ?_ _ _ _ ⟨[],rfl,Grow.rfl',rfl⟩
 ·intro J d ys out hJ σ2
  refine Z49 fun done e g eo=>?_
  subst eo
  have e2:done.length≤30:=by rw[←e]at l2;simp at l2;exact Y7t l2
  k_extra "M"
  refine isd rfl hh' rfl (by rw[←e];simp) fun σ3 g3=>?_
  exact hJ _ _ (by simp[sizeLine_eq];exact Y7u e2) (.inl (g3 _ _ (g _ _ hl1))) ⟨done++[d],by simpa using e,g.trans g3,by simp⟩
 ·intro out σ2
  refine Z49 fun done e g eo=>?_
  subst eo
  rw[List.append_nil]at e
  subst e
  intro c hc
  k_extra "M"
  refine CallWP.all hh' (.inl Store.hit) ?_
  have e3:((hn.ds.map fun _=>true).all id)=true:=by simp
  rw[e3]
  k_extra "M"
  exact h _ ((g1.trans g).fresh hc)
structure Told(σ:Store) (hs:List (Hn×V)):Prop where
 at_:∀p∈hs,∃l,p.2=.ref l∧σ l=some (.list (p.1.ds.map Deed.v))
 good:∀p∈hs,p.1.Good
 nd:(hs.map (·.1.name)).Nodup
 len:hs.length≤40
 names:∀p∈hs,∀d∈p.1.ds,∀n,(d=.join n∨d=.leave n)->n∈hs.map (·.1.name)
theorem Z1X:∀{ns:List Str} {n:Str},n∉ns->sput (ns.map fun n=>(n,V.bool true)) n (.bool true)=(ns++[n]).map fun n=>(n,V.bool true)
 | [],n,_=>rfl
 | k::ns,n,h=>by
  simp only[List.mem_cons,not_or]at h
  simp only[List.map_cons,List.cons_append,sput,h.1,if_false]
  exact congrArg _ (Z1X h.2)
theorem Z1Y{ns:List Str} {n:Str}:(sget (ns.map fun n=>(n,V.bool true)) n).isSome=ns.contains n:=by
 unfold sget
 rw[Option.isSome_map,List.find?_map,Option.isSome_map,Bool.eq_iff_iff]
 simp[List.find?_isSome]
theorem Z5C{l:Addr} {hs:List (Hn×V)} {Q:pV} (hK:C.K=KL C.w.params) (hS:Zh C) (hr:A.depth+3<recursionLimit) (hh:A.handled=none) (hu:A.units<6800) (T:Told σ hs) (hl:LstAt C σ l (hs.map fun p=>p.1.tv p.2)) (h:∀a σ',Grow σ σ'->σ a=none->σ' a=some (.list ((hs.map (·.1.hd)).map hv))->Q (.ref a) σ'):CallWP C A (.ref 133) [.ref l] σ Q X:=by
 revert C A σ X l hs Q;k_extra "e7";intro C A σ X l hs Q hK hS hr hh hu T hl h
 have hr0:A.depth<recursionLimit:=by exact Y6X hr
 have l2:=T.len
 k_extra "mdef1"
 intro fL A' a1 a2 a3
 have hh':A'.handled=none:=a1.trans hh
 k_extra "M"
 intro fa hfa
 k_extra "M"
 refine Ev.dict0 fun kn hkn=>?_
 k_extra "M"
 obtain⟨q1,hkn0⟩:=Store.none_ne hkn
 have g0:Grow σ ((σ.upd fa (.list [])).upd kn (.sd [])):=(Grow.rfl'.upd hfa).upd hkn0
 have lg:∀{σ1:Store},Grow σ σ1->LstAt C σ1 l (hs.map fun p=>p.1.tv p.2):=fun g=>by
  rcases hl with z|z
  ·exact .inl (g _ _ z)
  ·exact .inr z
 refine⟨l,_,rfl,lg g0,?_⟩
 rw[Z48]
 refine ForL.invJ (fun p:(Hn×V)×Nat=>V.tup [.int (p.2:Int),p.1.1.tv p.1.2]) (fun xs ρ σ1=>∃done rest,done++rest=hs∧xs=rest.zipIdx done.length∧Grow σ σ1∧σ1 fa=some (.list ((done.map (·.1.hd)).map hv))∧σ1 kn=some (.sd ((done.map (·.1.name)).map fun n=>(n,V.bool true)))∧ρ.get "found" = some (.ref fa)∧ρ.get "known" = some (.ref kn)) ?_ ?_ _ _ _
  ⟨[],hs,rfl,rfl,g0,Store.miss (Ne.symm q1) Store.hit,Store.hit,by k_extra "mget",by k_extra "mget"⟩
 ·intro J p xs hN _ _ ρ σ1
  refine Z4d fun done rest e1 e2 g1 f1 f2 r1 r2=>?_
  obtain⟨⟨hn,v⟩,rest,rfl⟩:∃q rest',rest=q::rest':=by
   cases rest with
   | nil=>cases e2
   | cons q rest=>exact⟨q,rest,rfl⟩
  rw[List.zipIdx_cons]at e2
  obtain⟨rfl,rfl⟩:=List.cons.inj e2
  have hm:(hn,v)∈hs:=by rw[←e1];simp
  have hlen:done.length<40:=by rw[←e1]at l2;simp at l2;exact Y7v l2
  have hG:=T.good _ hm
  have hv0:=T.at_ _ hm
  have hv1:∃l,v=.ref l∧σ1 l=some (.list (hn.ds.map Deed.v)):=by
   obtain⟨l',z1,z2⟩:=hv0
   exact⟨l',z1,g1 _ _ z2⟩
  have hnew:hn.name∉done.map (·.1.name):=by
   have nd:=T.nd
   rw[←e1,List.map_append,List.nodup_append]at nd
   exact fun z=>nd.2.2 _ z _ (by simp) rfl
  have hds:=hG.len
  dsimp only
  k_extra "M"
  refine Br.f (by simp;exact Y7w hlen) ?_
  k_extra "M"
  refine Z34 hK (by exact Y6Z hr a2) hh' (by exact Y6Y hu a3) hG hv1 fun σ2 g2=>?_
  have f1':=g2 _ _ f1
  have f2':=g2 _ _ f2
  simp only[Hn.tv]
  k_extra "M"
  refine CmpWP.inSd f2' hS ?_
  rw[Z1Y]
  have hc:(done.map (·.1.name)).contains hn.name=false:=by simpa using hnew
  rw[hc]
  k_extra "M"
  refine SetWP.sd f2' (by simp[sizeLine_eq];exact Y7x hlen) ?_
  rw[Z1X hnew]
  have g3:Grow σ (σ2.upd kn (.sd ((done.map (·.1.name)++[hn.name]).map fun n=>(n,V.bool true)))):=(g1.trans g2).upd hkn0
  have tv:∀{Q3:pV} {X3:XP},Q3 (.tup (hn.ds.map Deed.v)) (σ2.upd kn (.sd ((done.map (·.1.name)++[hn.name]).map fun n=>(n,V.bool true))))->CallWP C A' (.type "tuple") [v] (σ2.upd kn (.sd ((done.map (·.1.name)++[hn.name]).map fun n=>(n,V.bool true)))) Q3 X3:=by
   intro Q3 X3 hq
   obtain⟨l',z1,z2⟩:=hv0
   dsimp only at z1 z2
   subst z1
   exact CallWP.tupOf (.inl (g3 _ _ z2)) (by dsimp only at hds;simp[sizeLine_eq];exact Y7u hds) hq
  have f3:(σ2.upd kn (.sd ((done.map (·.1.name)++[hn.name]).map fun n=>(n,V.bool true)))) fa=some (.list ((done.map (·.1.hd)).map hv)):=Store.miss (Ne.symm q1) f1'
  k_extra "M"
  refine tv ?_
  k_extra "M"
  refine hN _ _ (lg (g3.upd hfa)) ⟨done++[(hn,v)],rest,by simpa using e1,by simp,g3.upd hfa,?_,?_,by k_extra "mget",by k_extra "mget"⟩
  ·rw[Store.hit];simp[hv,Hn.hd]
  ·rw[Store.miss q1 Store.hit];simp
 ·intro ρ σ1
  refine Z4d fun done rest e1 e2 g1 f1 f2 r1 r2=>?_
  have e3:rest=[]:=by
   cases rest with
   | nil=>rfl
   | cons p r=>rw[List.zipIdx_cons]at e2;cases e2
  subst e3
  rw[List.append_nil]at e1
  subst e1
  k_extra "M"
  refine⟨_,_,ItV.list hh' (.inl f1),?_⟩
  rw[List.map_map]
  refine ForL.invJ (fun p:Hn×V=>hv p.1.hd) (fun xs ρ σ2=>(∀p∈xs,p∈done)∧σ2=σ1∧ρ.get "found" = some (.ref fa)∧ρ.get "known" = some (.ref kn)) ?_ ?_ _ _ _ ⟨fun _ z=>z,rfl,r1,r2⟩
  ·intro J ⟨hn,v⟩ xs hN _ _ ρ σ2
   refine Z1N fun hsub es r1 r2=>?_
   subst es
   have hm:=hsub _ (.head _)
   simp only[hv,Hn.hd]
   k_extra "M"
   refine⟨_,_,ItV.tup hh',?_⟩
   refine ForL.invJ Deed.v (fun ds ρ σ3=>(∀d∈ds,d∈hn.ds)∧σ3=σ2∧ρ.get "found" = some (.ref fa)∧ρ.get "known" = some (.ref kn)) ?_ ?_ _ _ _ ⟨fun _ z=>z,rfl,by k_extra "mget",by k_extra "mget"⟩
   ·intro J2 d ds hN2 _ _ ρ σ3
    refine Z1N fun hsub2 es r1 r2=>?_
    subst es
    obtain⟨k,vs,e4,e5,e6⟩:∃k vs,Deed.v d=.tup (.str k::vs)∧PyData.strOk k=true∧(([Str.ofString "join",Str.ofString "leave"].contains k=false)∨([Str.ofString "join",Str.ofString "leave"].contains k=true∧∃n,vs=[.str n]∧n∈done.map (·.1.name))):=by
     have hd:=T.names _ hm d (hsub2 d (.head _))
     cases d with
     | now w=>exact⟨_,_,rfl,Z0 _,.inl (by decide +kernel)⟩
     | soon w=>exact⟨_,_,rfl,Z0 _,.inl (by decide +kernel)⟩
     | wait t w=>exact⟨_,_,rfl,Z0 _,.inl (by decide +kernel)⟩
     | cancel w=>exact⟨_,_,rfl,Z0 _,.inl (by decide +kernel)⟩
     | hush=>exact⟨_,_,rfl,Z0 _,.inl (by decide +kernel)⟩
     | join n=>exact⟨_,_,rfl,Z0 _,.inr ⟨by decide +kernel,n,rfl,hd n (.inl rfl)⟩⟩
     | leave n=>exact⟨_,_,rfl,Z0 _,.inr ⟨by decide +kernel,n,rfl,hd n (.inr rfl)⟩⟩
    rw[e4]
    k_extra "M"
    refine CmpWP.inTS (ns:=[Str.ofString "join",Str.ofString "leave"]) (by exact Y7y hu a3) e5 (by simp[Z0]) ?_
    rcases e6 with e6|⟨e6,n,rfl,hn2⟩
    ·rw[e6]
     k_extra "M"
     exact hN2 _ _ trivial ⟨fun d hd=>hsub2 d (.tail _ hd),rfl,by k_extra "mget",by k_extra "mget"⟩
    ·rw[e6]
     k_extra "M"
     refine CmpWP.notInSd f2 hS ?_
     rw[Z1Y]
     have hc:(done.map (·.1.name)).contains n=true:=by simpa using hn2
     rw[hc]
     k_extra "M"
     exact hN2 _ _ trivial ⟨fun d hd=>hsub2 d (.tail _ hd),rfl,by k_extra "mget",by k_extra "mget"⟩
   ·intro ρ σ3
    refine Z1N fun _ es r1 r2=>?_
    subst es
    k_extra "M"
    refine hN _ _ (.inl ?_) ⟨fun p hp=>hsub p (.tail _ hp),rfl,r1,r2⟩
    rw[←List.map_map];exact f1
  ·intro ρ σ2
   refine Z1N fun _ es r1 r2=>?_
   subst es
   k_extra "M"
   exact h fa _ g1 hfa f1
theorem Z5D{l l2:Addr} {ts:List (Str×List V)} {ns:List Str} {Q:pV} (hK:C.K=KL C.w.params) (hr:A.depth<recursionLimit) (hh:A.handled=none) (hu:A.units<6800) (hl:σ l=some (.list (ts.map fun t=>V.tup (.str t.1::t.2)))) (hl2:σ l2=some (.list (ns.map V.str))) (hz:ts.length≤60) (hz2:ns.length≤60) (nd:ns.Nodup) (hsub:∀n∈ns,n∈ts.map (·.1)) (ok:∀n∈ts.map (·.1),PyData.strOk n=true) (h:∀a σ',Grow σ σ'->σ a=none->σ' a=some (.list (ns.map V.str))->Q (.ref a) σ'):CallWP C A (.ref 138) [.ref l,.ref l2] σ Q X:=by
 revert C A σ X l l2 ts ns Q;k_extra "e9";intro C A σ X l l2 ts ns Q hK hr hh hu hl hl2 hz hz2 nd hsub ok h
 k_extra "mdef2"
 intro fL A' a1 a2 a3
 have hh':A'.handled=none:=a1.trans hh
 k_extra "M"
 refine⟨_,_,ItV.list hh' (.inl hl),fun L'=>?_⟩
 refine CmpL.pure (fun _=>true) (fun y=>match y with|.tup (x::_)=>x|_=>.none) (.inl hl) _ _ ?_ ?_ (by simp[sizeLine_eq];exact Y6B hz) ?_
 ·intro y hy Q hQ
  k_extra "M"
  exact hQ
 ·intro y hy _ Q hQ
  obtain⟨p,hp,rfl⟩:=List.mem_map.mp hy
  k_extra "M"
  exact hQ
 intro kn hkn
 have e:([]:List V)++List.map (fun y=>match y with|.tup (x::_)=>x|_=>.none) (List.filter (fun _=>true) (ts.map fun t=>V.tup (.str t.1::t.2)))=(ts.map (·.1)).map V.str:=by
  rw[List.nil_append,List.filter_eq_self.mpr (fun _ _=>rfl),List.map_map,List.map_map];rfl
 rw[e]
 k_extra "M"
 intro fa hfa
 obtain⟨q1,hfa0⟩:=Store.none_ne hfa
 k_extra "M"
 have hl2':((σ.upd kn (.list ((ts.map (·.1)).map V.str))).upd fa (.list [])) l2=some (.list (ns.map V.str)):=Store.at_fresh hfa (Store.at_fresh hkn hl2)
 refine⟨_,_,ItV.list hh' (.inl hl2'),?_⟩
 refine ForL.invJ V.str (fun xs ρ σ1=>∃done,done++xs=ns∧Grow σ σ1∧σ1 kn=some (.list ((ts.map (·.1)).map V.str))∧σ1 fa=some (.list (done.map V.str))∧ρ.get "known" = some (.ref kn)∧ρ.get "found" = some (.ref fa)) ?_ ?_ _ _ _ ⟨[],rfl,(Grow.rfl'.upd hkn).upd hfa0,Store.miss (Ne.symm q1) Store.hit,Store.hit,by k_extra "mget",by k_extra "mget"⟩
 ·intro J n xs hN _ _ ρ σ1
  refine Z1O fun done e1 g1 f1 f2 r1 r2=>?_
  have hm:n∈ns:=by rw[←e1];simp
  have hm2:=hsub n hm
  have hnew:n∉done:=by
   rw[←e1,List.nodup_append]at nd
   exact fun z=>nd.2.2 _ z _ (.head _) rfl
  have hlen:done.length≤60:=by rw[←e1]at hz2;simp at hz2;exact Y6A hz2
  have hdok:∀x∈done,PyData.strOk x=true:=fun x hx=>ok x (hsub x (by rw[←e1];simp[hx]))
  k_extra "M"
  refine CmpWP.notInStrs (by exact Y7y hu a3) f1 (ok n hm2) ok ?_
  have hc:(ts.map (·.1)).contains n=true:=by simpa using hm2
  rw[hc]
  k_extra "M"
  refine CmpWP.inStrs (by exact Y7y hu a3) f2 (ok n hm2) hdok ?_
  have hc2:done.contains n=false:=by simpa using hnew
  rw[hc2]
  k_extra "M"
  refine hN _ _ (.inl ((g1.upd hfa0) _ _ hl2)) ⟨done++[n],by simpa using e1,g1.upd hfa0,Store.miss (Ne.symm q1) f1,?_,by k_extra "mget",by k_extra "mget"⟩
  rw[Store.hit];simp
 ·intro ρ σ1
  refine Z1O fun done e1 g1 f1 f2 r1 r2=>?_
  rw[List.append_nil]at e1
  subst e1
  k_extra "M"
  exact h fa _ g1 hfa0 f2
noncomputable def LS.new (ns:List Str):LS:=⟨ns,0,[],[],[],[],[],none⟩
theorem Told.grow{σ σ':Store} {hs:List (Hn×V)} (T:Told σ hs) (g:Grow σ σ'):Told σ' hs:=
 ⟨fun p hp=>(T.at_ p hp).imp fun l z=>⟨z.1,g _ _ z.2⟩,T.good,T.nd,T.len,T.names⟩
theorem Led.addL{σ σ':Store} {l l2:lO} (L:Led σ l) (g:Grow σ σ') (nd:(l2.map (·.1)).Nodup) (fr:∀p∈l2,σ p.1=none) (at_:∀p∈l2,σ' p.1=some p.2):Led σ' (l2++l):=by
 refine⟨?_,fun p hp=>?_⟩
 ·rw[List.map_append,List.nodup_append]
  refine⟨nd,L.nd,fun x hx y hy e=>?_⟩
  subst e
  obtain⟨p,hp,rfl⟩:=List.mem_map.mp hx
  exact L.free (fr p hp) hy
 ·rcases List.mem_append.mp hp with hp|hp
  ·exact at_ p hp
  ·exact g _ _ (L.at_ p hp)
theorem Zv{α:Type} (A:List α) {X X':List α} (h:X.Perm X'):(A++X).Perm (X'++A):=List.perm_append_comm.trans (h.append_right A)
theorem Z67{l l2:Addr} {hs:List (Hn×V)} {ns:List Str} {rest:lO} {Q:pV} (hK:C.K=KL C.w.params) (hS:Zh C) (hr:A.depth+6<recursionLimit) (hh:A.handled=none) (hu:A.units<6700) (T:Told σ hs) (hl:LstAt C σ l (hs.map fun p=>p.1.tv p.2)) (hl2:σ l2=some (.list (ns.map V.str))) (hz2:ns.length≤60) (nd:ns.Nodup) (hsub:∀n∈ns,n∈hs.map (·.1.name)) (ok:∀n∈hs.map (·.1.name),PyData.strOk n=true) (M:Led σ (tabE::rest)) (h:∀a σ',LAt σ' a [] (hs.map (·.1)) (LS.new ns) rest->Grow σ σ'->σ a.lo=none->Q (.ref a.lo) σ'):CallWP C A (.ref 320) [.ref l,.ref l2] σ Q X:=by
 revert C A σ X l l2 hs ns rest Q;k_extra "e10";intro C A σ X l l2 hs ns rest Q hK hS hr hh hu T hl hl2 hz2 nd hsub ok M h
 refine CallWP.cls (by k_extra "mK") (by k_extra "mK") (by k_extra "mK") fun w dx A1 hw hd hne h1 h2 h3=>?_
 have hr1:A1.depth<recursionLimit:=by exact Y7z hr h2
 k_extra "mdefC3"
 intro L A' a1 a2 a3
 have hh':A'.handled=none:=(a1.trans h1).trans hh
 have M0:Led ((σ.upd dx (.sd [])).upd w (.inst 320 dx)) ((w,.inst 320 dx)::(dx,.sd [])::tabE::rest):=(M.new (.sd []) hd).new (.inst 320 dx) (by rw[Store.upd_ne _ _ hne];exact hw)
 have g0:Grow σ ((σ.upd dx (.sd [])).upd w (.inst 320 dx)):=(Grow.rfl'.upd hd).upd hw
 generalize hσ0:(σ.upd dx (.sd [])).upd w (.inst 320 dx)=σ0 at M0 g0 ⊢
 k_extra "M"
 have lg:LstAt C σ0 l (hs.map fun p=>p.1.tv p.2):=by
  rcases hl with z|z
  ·exact .inl (g0 _ _ z)
  ·exact .inr z
 have ec:((hs.map (·.1)).map Hn.hd).map hv=(hs.map (·.1.hd)).map hv:=by simp[List.map_map,Function.comp_def]
 refine Z5C hK hS (by exact Y7A hr h2 a2) hh' (by exact Y7B hu h3 a3) (T.grow g0) lg fun ca σ1 g1 hca1 hca2=>?_
 rw[←ec]at hca2
 have M1:=M0.add g1 hca1 hca2
 have t1:=M1.get 1 rfl
 have t2:=M1.get 2 rfl
 k_extra "M"
 have M2:=M1.set 2 (.sd [("cast",.ref ca)]) rfl
 have G2:Grow σ (σ1.upd dx (.sd [("cast",.ref ca)])):=(g0.trans g1).upd hd
 generalize hσ2:Store.upd σ1 dx _=σ2 at M2 G2 ⊢
 k_extra "M"
 have e1:((hs.map (·.1)).map Hn.hd).map hv=(hs.map fun p=>(p.1.name,[V.int p.1.rank,.str p.1.hears,.bool p.1.once,.tup (p.1.ds.map Deed.v)])).map fun t=>V.tup (.str t.1::t.2):=by
  rw[List.map_map,List.map_map,List.map_map];rfl
 have e2:(hs.map fun p=>(p.1.name,[V.int p.1.rank,.str p.1.hears,.bool p.1.once,.tup (p.1.ds.map Deed.v)])).map (·.1)=hs.map (·.1.name):=by rw[List.map_map];rfl
 refine Z5D hK (by exact Y7C hr h2 a2) hh' (by exact Y7B hu h3 a3) (by rw[←e1];exact M2.get 0 rfl) (G2 _ _ hl2) (by simp;have:=T.len;exact Y7D this) hz2 nd (by rw[e2];exact hsub) (by rw[e2];exact ok) fun po σ3 g3 hpo1 hpo2=>?_
 have M3:=M2.add g3 hpo1 hpo2
 have t1:=M3.get 2 rfl
 have t2:=M3.get 3 rfl
 k_extra "M"
 have M4:=(M3.set 3 (.sd [("cast",.ref ca),("posts",.ref po)]) rfl).set 3 (.sd [("cast",.ref ca),("posts",.ref po),("time",.int 0)]) rfl
 have G4:=((G2.trans g3).upd (a:=dx) (o:=.sd [("cast",.ref ca),("posts",.ref po)]) hd).upd (a:=dx) (o:=.sd [("cast",.ref ca),("posts",.ref po),("time",.int 0)]) hd
 intro ev hev
 generalize hσ4:Store.upd (Store.upd σ3 dx _) dx _=σ4 at M4 G4 hev ⊢
 have M5:=M4.new (.list []) hev
 have G5:=G4.fresh (o:=.list []) hev
 generalize hσ5:Store.upd σ4 ev _=σ5 at M5 G5 ⊢
 have t1:=M5.get 3 rfl
 have t2:=M5.get 4 rfl
 k_extra "M"
 have M6:=M5.set 4 (.sd [("cast",.ref ca),("posts",.ref po),("time",.int 0),("events",.ref ev)]) rfl
 have G6:=G5.upd (a:=dx) (o:=.sd [("cast",.ref ca),("posts",.ref po),("time",.int 0),("events",.ref ev)]) hd
 intro lo hlo
 generalize hσ6:Store.upd σ5 dx _=σ6 at M6 G6 hlo ⊢
 have M7:=M6.new (.list []) hlo
 have G7:=G6.fresh (o:=.list []) hlo
 generalize hσ7:Store.upd σ6 lo _=σ7 at M7 G7 ⊢
 have t1:=M7.get 4 rfl
 have t2:=M7.get 5 rfl
 k_extra "M"
 have M8:=M7.set 5 (.sd [("cast",.ref ca),("posts",.ref po),("time",.int 0),("events",.ref ev),("log",.ref lo)]) rfl
 have G8:=G7.upd (a:=dx) (o:=.sd [("cast",.ref ca),("posts",.ref po),("time",.int 0),("events",.ref ev),("log",.ref lo)]) hd
 generalize hσ8:Store.upd σ7 dx _=σ8 at M8 G8 ⊢
 refine Z5z hK (by exact Y7E hr h2 a2) hh' fun wa wd nn ff σ9 g9 z1 z2 z3 z4 W9=>?_
 obtain⟨n1,n2,n3,n4,n5⟩:=W9.ne
 have M9:=M8.addL (l2:=[(wa,.inst 191 wd),(wd,.sd [("near",.ref nn),("far",.ref ff)]),(nn,.list []),(ff,.list [])]) g9 (by simp[n1,n2,n3,n4,n5,W9.nf]) (by simp[z1,z2,z3,z4]) (by
  simp only[List.mem_cons,List.not_mem_nil,or_false]
  rintro p (rfl|rfl|rfl|rfl)
  ·exact W9.hw
  ·exact W9.hd
  ·exact W9.hn
  ·exact W9.hf)
 have G9:=G8.trans g9
 have t1:=M9.get 8 rfl
 have t2:=M9.get 9 rfl
 k_extra "M"
 have M10:=M9.set 9 (.sd [("cast",.ref ca),("posts",.ref po),("time",.int 0),("events",.ref ev),("log",.ref lo),("waits",.ref wa)]) rfl
 have G10:=G9.upd (a:=dx) (o:=.sd [("cast",.ref ca),("posts",.ref po),("time",.int 0),("events",.ref ev),("log",.ref lo),("waits",.ref wa)]) hd
 intro fr hfr
 generalize hσ10:Store.upd σ9 dx _=σ10 at M10 G10 hfr ⊢
 have M11:=M10.new (.list []) hfr
 have G11:=G10.fresh (o:=.list []) hfr
 generalize hσ11:Store.upd σ10 fr _=σ11 at M11 G11 ⊢
 have t1:=M11.get 9 rfl
 have t2:=M11.get 10 rfl
 k_extra "M"
 refine h ⟨w,dx,ca,po,ev,lo,wa,wd,nn,ff,fr⟩ _ ⟨?_,rfl⟩ ((G11.upd hd).upd hd) hw
 have M12:=(M11.set 10 (.sd [("cast",.ref ca),("posts",.ref po),("time",.int 0),("events",.ref ev),("log",.ref lo),("waits",.ref wa),("frames",.ref fr)]) rfl).set 10 (.sd [("cast",.ref ca),("posts",.ref po),("time",.int 0),("events",.ref ev),("log",.ref lo),("waits",.ref wa),("frames",.ref fr),("fresh",.none)]) rfl
 exact M12.perm (List.Perm.append_right rest (List.Perm.symm (Zv [_] (Zv [_,_,_,_] (Zv [_] (Zv [_] (Zv [_] (Zv [_] (Zv [_,_] (.refl [_]))))))))))
theorem Z2V(cast:List Hn) (ps:List Str) (w:Str):∃out,Heard (cast.map Hn.hd) ps w out:=by
 revert cast ps w;k_extra "e3";intro cast ps w
 have key:∀(f:Nat->Int) (m:Nat),∃p:List Nat,p.Perm (List.range m)∧p.Pairwise (slt fun i j=>decide (f i<f j)):=by
  intro f m
  have p1:=List.mergeSort_perm (List.range m) fun i j=>decide (f i<f j∨(f i=f j∧i≤j))
  have p2:=List.pairwise_mergeSort (le:=fun i j=>decide (f i<f j∨(f i=f j∧i≤j))) (fun a b c h1 h2=>by simp only[decide_eq_true_eq]at *;exact Y7F h1 h2) (fun a b=>by simp only[Bool.or_eq_true,decide_eq_true_eq];exact Y7G) (List.range m)
  refine⟨_,p1,(p2.and (p1.nodup_iff.mpr List.nodup_range)).imp fun{i j} h=>?_⟩
  obtain⟨h1,h2⟩:=h
  unfold slt
  simp only[decide_eq_true_eq,decide_eq_false_iff_not]at h1 ⊢
  exact Y7H h2 h1
 obtain⟨p,h1,h2⟩:=key (fun i=>rk (cast.map Hn.hd) ((Zb (cast.map Hn.hd) ps w).getD i Str.empty)) (Zb (cast.map Hn.hd) ps w).length
 exact⟨_,p,h1,h2,rfl⟩
theorem Z3S(cast:List Hn) (ps:List Str) (w:Str):Heard (cast.map Hn.hd) ps w (ZI cast ps w):=by
 unfold ZI
 rw[dif_pos (Z2V cast ps w)]
 exact Classical.choose_spec (Z2V cast ps w)
noncomputable def Deed.Ok:Deed->Prop
 | .now w|.soon w|.cancel w=>PyData.strOk w=true
 | .wait _ w=>PyData.strOk w=true
 | _=>True
noncomputable def DOk (cast:List Hn) (d:Deed):Prop:=d.Ok∧∀n,(d=.join n∨d=.leave n)->n∈cast.map (·.name)
structure CastOk(cast:List Hn):Prop where
 K:COk cast
 len:cast.length≤40
 dl:∀h∈cast,h.ds.length≤30
 ds:∀h∈cast,∀d∈h.ds,DOk cast d
noncomputable def LS.line (s:LS):List Int:=s.fresh.toList++(s.near++s.far.map (·.2))
structure FOk(cast:List Hn) (r:Frm):Prop where
 cl:r.calls.length≤60
 cn:∀n∈r.calls,n∈cast.map (·.name)
 dl:r.deeds.length≤30
 ds:∀d∈r.deeds,DOk cast d
structure LS.Wf(cast:List Hn) (s:LS):Prop where
 ev:s.events.length≤s.log.length
 ne:s.near.length≤s.log.length
 fa:s.far.length≤s.log.length
 fr:s.frames.length≤s.log.length
 pn:s.posts.Nodup
 po:∀n∈s.posts,n∈cast.map (·.name)
 fm:∀r∈s.frames,FOk cast r
 word:∀e∈s.events,PyData.strOk e.word=true
 nums:∀n∈s.line,0≤n∧n<s.events.length
 nd:s.line.Nodup
theorem Z1Z(cast:List Hn) (ps:List Str) (w:Str):(ZI cast ps w).Perm (Zb (cast.map Hn.hd) ps w):=by
 revert cast ps w;k_extra "e3";intro cast ps w
 obtain⟨p,h1,h2,h3⟩:=Z3S cast ps w
 rw[h3]
 have:=h1.map fun i=>(Zb (cast.map Hn.hd) ps w).getD i Str.empty
 refine this.trans (List.Perm.of_eq ?_)
 refine List.ext_getElem (by simp) fun i a b=>?_
 simp[b]
theorem Z4A{cast:List Hn} {ps:List Str} {w n:Str} (h:n∈ZI cast ps w):n∈ps:=(List.mem_filter.mp ((Z1Z cast ps w).mem_iff.mp h)).1
theorem Z2j:∀{l m:List Str},l.Nodup->(∀x∈l,x∈m)->l.length≤m.length
 | [],m,_,_=>Nat.zero_le _
 | x::l,m,nd,h=>by
  have n2:=List.nodup_cons.mp nd
  have:=Z2j (m:=m.erase x) n2.2 fun y hy=>(List.mem_erase_of_ne fun(e:y=x)=>n2.1 (e▸hy)).mpr (h y (.tail _ hy))
  rw[List.length_erase_of_mem (h x (.head _))]at this
  have:=List.length_pos_of_mem (h x (.head _))
  simp only[List.length_cons]
  (first|lia|omega)
theorem Z2k{cast:List Hn} {ps:List Str} (K:CastOk cast) (nd:ps.Nodup) (sub:∀n∈ps,n∈cast.map (·.name)):ps.length≤40:=by
 have h:=Z2j nd sub
 rw[List.length_map]at h
 exact Nat.le_trans h K.len
theorem Z4B{cast:List Hn} {ps:List Str} {w:Str} (K:CastOk cast) (nd:ps.Nodup) (sub:∀n∈ps,n∈cast.map (·.name)):(ZI cast ps w).length≤60:=by
 rw[(Z1Z cast ps w).length_eq]
 exact Nat.le_trans (Nat.le_trans (List.length_filter_le ..) (Z2k K nd sub)) (by decide)
theorem LS.Wf.ok{cast:List Hn} {s:LS} (K:CastOk cast) (W:s.Wf cast) (hN:s.log.length≤9000):s.Ok cast∧s.Nums:=by
 have nm:∀n∈cast.map (·.name),PyData.strOk n=true:=fun n hn=>by
  obtain⟨h,hh,rfl⟩:=List.mem_map.mp hn
  exact K.K.name h hh
 have h1:=W.ev
 have h2:=W.ne
 have h3:=W.fa
 have h4:=W.fr
 refine⟨⟨⟨Nat.le_trans (Z2k K W.pn W.po) (by decide),by exact Y7I hN h1,hN,by exact Y7I hN h2,by exact Y7I hN h3,by exact Y7I hN h4⟩,⟨fun n hn=>nm n (W.po n hn),fun r hr=>⟨Nat.le_trans (W.fm r hr).cl (by decide),fun n hn=>nm n ((W.fm r hr).cn n hn)⟩⟩,W.po,fun r hr=>(W.fm r hr).cn,fun r hr=>⟨Nat.le_trans (W.fm r hr).dl (by decide),fun d hd=>?_⟩⟩,⟨fun n hn=>?_,fun n hn=>?_,fun p hp=>?_,W.word⟩⟩
 ·obtain⟨_,b⟩:=(W.fm r hr).ds d hd
  cases d with
  | join n=>exact nm n (b n (.inl rfl))
  | leave n=>exact nm n (b n (.inr rfl))
  | _=>trivial
 ·exact W.nums n (List.mem_append_left _ (by rw[hn];exact .head _))
 ·exact W.nums n (List.mem_append_right _ (List.mem_append_left _ hn))
 ·exact W.nums p.2 (List.mem_append_right _ (List.mem_append_right _ (List.mem_map_of_mem hp)))
theorem Z68{l:List Int} {k:Nat} (h:∀n∈l,0≤n∧n<(k:Int)):(k:Int)∉l:=fun q=>by
 have:=h _ q;exact Y7J this
theorem LS.Wf.begin{cast:List Hn} {s s1:LS} {n:Int} (K:CastOk cast) (W:s.Wf cast) (e1:s1.posts=s.posts) (e2:s1.events=s.events) (e3:s1.log=s.log) (e4:s1.frames=s.frames) (h1:s1.near.length≤s.near.length) (h2:s1.far.length≤s.far.length) (hs:s1.line.Sublist s.line):(s1.begins cast n).Wf cast:=by
 revert cast s s1 n;k_extra "e4";intro cast s s1 n K W e1 e2 e3 e4 h1 h2 hs
 have a1:=W.ev
 have a2:=W.ne
 have a3:=W.fa
 have a4:=W.fr
 refine⟨?_,?_,?_,?_,?_,?_,fun r hr=>?_,?_,fun m hm=>?_,?_⟩
 ·simp only[LS.begins,LS.begin,List.length_append,List.length_singleton,e2,e3];exact Y7K a1
 ·simp only[LS.begins,LS.begin,List.length_append,List.length_singleton,e3];exact Y7L h1 a2
 ·simp only[LS.begins,LS.begin,List.length_append,List.length_singleton,e3];exact Y7L h2 a3
 ·simp only[LS.begins,LS.begin,List.length_append,List.length_singleton,List.length_cons,e3,e4];exact Y7M a4
 ·show s1.posts.Nodup;rw[e1];exact W.pn
 ·show ∀n∈s1.posts,_;rw[e1];exact W.po
 ·have hr:r∈⟨n,ZI cast s1.posts (s1.wordOf n),[]⟩::s1.frames:=hr
  rcases List.mem_cons.mp hr with rfl|hr
  ·rw[e1]
   exact⟨Z4B K W.pn W.po,fun m hm=>W.po m (Z4A hm),by simp,fun d hd=>by cases hd⟩
  ·rw[e4]at hr;exact W.fm r hr
 ·show ∀e∈s1.events,_;rw[e2];exact W.word
 ·have hm:m∈s1.line:=hm
  show 0≤m∧m<(s1.events.length:Int)
  rw[e2];exact W.nums m (hs.subset hm)
 ·show s1.line.Nodup;exact hs.nodup W.nd
theorem LS.Wf.cons{cast:List Hn} {s s1:LS} {r:Row} (W:s.Wf cast) (e1:s1.events=s.events) (e2:s1.near=s.near) (e3:s1.far=s.far) (e4:s1.fresh=s.fresh) (e5:s1.log=s.log++[r]) (h1:s1.frames.length≤s.frames.length) (h2:s1.posts.Nodup) (h3:∀n∈s1.posts,n∈cast.map (·.name)) (h4:∀r∈s1.frames,FOk cast r):s1.Wf cast:=by
 have a1:=W.ev
 have a2:=W.ne
 have a3:=W.fa
 have a4:=W.fr
 have el:s1.line=s.line:=by unfold LS.line;rw[e2,e3,e4]
 refine⟨?_,?_,?_,?_,h2,h3,h4,by rw[e1];exact W.word,by rw[el,e1];exact W.nums,by rw[el];exact W.nd⟩
 ·rw[e1,e5,List.length_append,List.length_singleton];exact Y7K a1
 ·rw[e2,e5,List.length_append,List.length_singleton];exact Y7K a2
 ·rw[e3,e5,List.length_append,List.length_singleton];exact Y7K a3
 ·rw[e5,List.length_append,List.length_singleton];exact Y7L h1 a4
theorem FOk.away{cast:List Hn} {r:Frm} (h:FOk cast r) (n:Str):FOk cast (r.away n):=⟨Nat.le_trans (List.length_erase_le ..) h.cl,fun m hm=>h.cn m (List.mem_of_mem_erase hm),h.dl,h.ds⟩
theorem LS.Wf.make{cast:List Hn} {s s1:LS} {e:Evt} {r:Row} {k:Option Int} (W:s.Wf cast) (e1:s1.events=s.events++[e]) (hw:PyData.strOk e.word=true) (e5:s1.log=s.log++[r]) (hp:s1.posts=s.posts) (hf:s1.frames=s.frames) (h1:s1.near.length≤s.near.length+1) (h2:s1.far.length≤s.far.length+1) (hl:s1.line.Perm ((s.events.length:Int)::s.line)):s1.Wf cast:=by
 have a1:=W.ev
 have a2:=W.ne
 have a3:=W.fa
 have a4:=W.fr
 refine⟨?_,?_,?_,?_,by rw[hp];exact W.pn,by rw[hp];exact W.po,by rw[hf];exact W.fm,?_,?_,?_⟩
 ·rw[e1,e5,List.length_append,List.length_append,List.length_singleton,List.length_singleton];exact Y7N a1
 ·rw[e5,List.length_append,List.length_singleton];exact Y7O h1 a2
 ·rw[e5,List.length_append,List.length_singleton];exact Y7O h2 a3
 ·rw[hf,e5,List.length_append,List.length_singleton];exact Y7K a4
 ·rw[e1]
  intro x hx
  rcases List.mem_append.mp hx with hx|hx
  ·exact W.word x hx
  ·rw[List.mem_singleton.mp hx];exact hw
 ·intro n hn
  rw[e1,List.length_append,List.length_singleton]
  rcases List.mem_cons.mp (hl.mem_iff.mp hn) with rfl|hn
  ·exact Y7P
  ·have:=W.nums n hn;exact Y7Q this
 ·exact hl.nodup_iff.mpr (List.nodup_cons.mpr ⟨Z68 W.nums,W.nd⟩)
theorem LS.Wf.send{cast:List Hn} {s:LS} {w:Str} (W:s.Wf cast) (hw:PyData.strOk w=true):(s.send w).Wf cast:=by
 refine W.make (k:=none) (e:=⟨w,none,Str.ofString "wait",s.time⟩) rfl hw rfl rfl rfl (Nat.le_succ _) (by simp[LS.send]) ?_
 simp only[LS.send,LS.line,List.map_append,List.map_cons,List.map_nil]
 rw[show s.fresh.toList++(s.near++(s.far.map (·.2)++[(s.events.length:Int)]))=(s.fresh.toList++(s.near++s.far.map (·.2)))++[(s.events.length:Int)] by simp]
 exact List.perm_append_singleton _ _
theorem LS.Wf.retop{cast:List Hn} {s:LS} {r r':Frm} {fr:List Frm} (W:s.Wf cast) (hf:s.frames=r::fr) (h:FOk cast r'):({ s with frames:=r'::fr }:LS).Wf cast:=
 ⟨W.ev,W.ne,W.fa,by have:=W.fr;rw[hf]at this;simpa using this,W.pn,W.po,fun q hq=>by
  rcases List.mem_cons.mp hq with rfl|hq
  ·exact h
  ·exact W.fm q (by rw[hf];exact .tail _ hq),W.word,W.nums,W.nd⟩
set_option tactic.hygienic true in
theorem LS.Wf.deed{cast:List Hn} {s:LS} {n:Int} {d:Deed} (W:s.Wf cast) (h0:s.fresh=none) (hd:DOk cast d):(s.deed n d).Wf cast∧(s.deed n d).log.length=s.log.length+1:=by
 revert cast s n d;k_extra "e4";intro cast s n d W h0 hd
 cases d with
 | now w=>
  refine⟨W.make (k:=none) (e:=⟨w,some n,Str.ofString "now",s.time⟩) rfl hd.1 rfl rfl rfl (Nat.le_succ _) (Nat.le_succ _) ?_,by simp[LS.deed,LS.make]⟩
  simp only[LS.deed,LS.make,LS.line,h0]
  exact List.Perm.refl _
 | soon w=>
  refine⟨W.make (k:=none) (e:=⟨w,some n,Str.ofString "soon",s.time⟩) rfl hd.1 rfl rfl rfl (by simp[LS.deed,LS.make]) (Nat.le_succ _) ?_,by simp[LS.deed,LS.make]⟩
  simp only[LS.deed,LS.make,LS.line]
  rw[List.append_assoc,←List.append_assoc,List.singleton_append]
  refine List.perm_middle.trans ?_
  rw[List.append_assoc]
 | wait t w=>
  refine⟨W.make (k:=none) (e:=⟨w,some n,Str.ofString "wait",s.time+t⟩) rfl hd.1 rfl rfl rfl (Nat.le_succ _) (by simp[LS.deed,LS.make]) ?_,by simp[LS.deed,LS.make]⟩
  simp only[LS.deed,LS.make,LS.line,List.map_append,List.map_cons,List.map_nil]
  rw[show s.fresh.toList++(s.near++(s.far.map (·.2)++[(s.events.length:Int)]))=(s.fresh.toList++(s.near++s.far.map (·.2)))++[(s.events.length:Int)] by simp]
  exact List.perm_append_singleton _ _
 | cancel w=>
  have a1:=W.ev
  have a2:=W.ne
  have a3:=W.fa
  have a4:=W.fr
  have l1:=List.length_filter_le (fun x=>!(s.wordOf x==w)) s.near
  have l2:=List.length_filter_le (fun p=>!(s.wordOf p.2==w)) s.far
  have hs:(s.deed n (.cancel w)).line.Sublist s.line:=(List.Sublist.refl _).append (List.filter_sublist.append (List.filter_sublist.map _))
  refine⟨⟨?_,?_,?_,?_,W.pn,W.po,W.fm,W.word,fun m hm=>W.nums m (hs.subset hm),hs.nodup W.nd⟩,by simp[LS.deed,LS.cancel]⟩
  all_goals simp only[LS.deed,LS.cancel,List.length_append,List.length_singleton];(first|lia|omega)
 | join h=>
  refine⟨W.cons (r:=.join n h) rfl rfl rfl rfl rfl (Nat.le_refl _) ?_ ?_ W.fm,by simp[LS.deed]⟩
  ·simp only[LS.deed,LS.join]
   split
   ·exact W.pn
   ·rename_i q
    rw[List.nodup_append]
    refine⟨W.pn,by simp,fun x hx y hy e=>?_⟩
    rw[List.mem_singleton.mp hy]at e
    subst e
    exact q (by simpa using hx)
  ·simp only[LS.deed,LS.join]
   split
   ·exact W.po
   ·intro x hx
    rcases List.mem_append.mp hx with hx|hx
    ·exact W.po x hx
    ·rw[List.mem_singleton.mp hx];exact hd.2 h (.inl rfl)
 | leave h=>
  refine⟨W.cons (r:=.leave n h) rfl rfl rfl rfl rfl (by simp[LS.deed,LS.away]) ?_ ?_ ?_,by simp[LS.deed]⟩
  ·exact List.erase_sublist.nodup W.pn
  ·exact fun x hx=>W.po x (List.mem_of_mem_erase hx)
  ·intro q hq
   obtain⟨r,hr,rfl⟩:=List.mem_map.mp hq
   exact(W.fm r hr).away h
 | hush=>
  cases hf:s.frames with
  | nil=>
   have e:s.setCalls []=s:=by unfold LS.setCalls;rw[hf]
   refine⟨W.cons (r:=.hush n) ?_ ?_ ?_ ?_ ?_ ?_ ?_ ?_ ?_,by simp[LS.deed]⟩
   all_goals simp only[LS.deed,e]
   ·exact Nat.le_refl _
   ·exact W.pn
   ·exact W.po
   ·exact W.fm
  | cons r fr=>
   have e:s.setCalls []={ s with frames:={ r with calls:=[] }::fr }:=by unfold LS.setCalls;rw[hf]
   refine⟨W.cons (r:=.hush n) ?_ ?_ ?_ ?_ ?_ ?_ ?_ ?_ ?_,by simp[LS.deed]⟩
   all_goals simp only[LS.deed,e]
   ·rw[hf];exact Nat.le_refl _
   ·exact W.pn
   ·exact W.po
   ·have F:=W.fm r (by rw[hf];exact .head _)
    intro q hq
    rcases List.mem_cons.mp hq with rfl|hq
    ·exact⟨by simp,(fun _ z=>by cases z),F.dl,F.ds⟩
    ·exact W.fm q (by rw[hf];exact .tail _ hq)
theorem LS.Wf.goOn{cast:List Hn} {s:LS} {r:Frm} {fr:List Frm} (K:CastOk cast) (W:s.Wf cast) (h0:s.fresh=none) (hf:s.frames=r::fr):(s.goOn cast).Wf cast∧(s.goOn cast).log.length=s.log.length+1:=by
 revert cast s r fr;k_extra "e4";intro cast s r fr K W h0 hf
 have F:=W.fm r (by rw[hf];exact .head _)
 unfold LS.goOn
 rw[hf]
 dsimp only
 cases hd:r.deeds with
 | cons d ds=>
  have F2:=F.ds
  have F3:=F.dl
  rw[hd]at F2 F3
  exact LS.Wf.deed (W.retop hf ⟨F.cl,F.cn,by simp at F3 ⊢;exact Y7R F3,fun d' h'=>F2 d' (.tail _ h')⟩) h0 (F2 d (.head _))
 | nil=>
  dsimp only
  cases hc:r.calls with
  | cons n cs=>
   have F2:=F.cn
   have F3:=F.cl
   rw[hc]at F2 F3
   obtain⟨x,hx,rfl⟩:=List.mem_map.mp (F2 n (.head _))
   dsimp only
   rw[Z1i K.K hx]
   dsimp only
   have W2:({ s with frames:={ r with calls:=cs,deeds:=x.ds }::fr }:LS).Wf cast:=W.retop hf ⟨by simp at F3 ⊢;exact Y7S F3,fun m hm=>F2 m (.tail _ hm),K.dl x hx,K.ds x hx⟩
   have eg:∀ds,({ s with frames:={ num:=r.num,calls:=cs,deeds:=ds }::fr }:LS).setDeeds x.ds={ s with frames:={ num:=r.num,calls:=cs,deeds:=x.ds }::fr }:=fun _=>rfl
   refine⟨?_,by simp[LS.callIn]⟩
   unfold LS.callIn LS.got
   rw[eg]
   cases x.once with
   | false=>exact W2.cons (r:=.call r.num x.name) rfl rfl rfl rfl rfl (Nat.le_refl _) W2.pn W2.po W2.fm
   | true=>
    refine W2.cons (r:=.call r.num x.name) rfl rfl rfl rfl rfl (by simp[LS.away]) ?_ ?_ ?_
    ·exact List.erase_sublist.nodup W.pn
    ·exact fun y hy=>W.po y (List.mem_of_mem_erase hy)
    ·intro q hq
     obtain⟨r',hr',rfl⟩:=List.mem_map.mp hq
     exact(W2.fm r' hr').away x.name
  | nil=>
   refine⟨W.cons (r:=.fin r.num) rfl rfl rfl rfl rfl (by rw[hf];simp) W.pn W.po fun q hq=>W.fm q (by rw[hf];exact .tail _ hq),by simp⟩
theorem LS.Wf.step{cast:List Hn} {s s':LS} (K:CastOk cast) (W:s.Wf cast) (h:s.step cast=some s'):s'.Wf cast∧s'.log.length=s.log.length+1:=by
 revert cast s s';k_extra "e3";intro cast s s' K W h
 unfold LS.step at h
 cases h0:s.fresh with
 | some n=>
  rw[h0]at h
  cases h
  refine⟨W.begin K rfl rfl rfl rfl (Nat.le_refl _) (Nat.le_refl _) ?_,by simp[LS.begins,LS.begin]⟩
  exact List.sublist_append_right _ _
 | none=>
  rw[h0]at h
  cases hf:s.frames with
  | cons r fr=>
   rw[hf]at h
   cases h
   exact W.goOn K h0 hf
  | nil=>
   rw[hf]at h
   cases hn:s.near with
   | cons n ns=>
    rw[hn]at h
    cases h
    refine⟨W.begin K rfl rfl rfl hf.symm (by rw[hn];simp) (Nat.le_refl _) ?_,by simp[LS.begins,LS.begin]⟩
    unfold LS.line
    rw[hn,h0]
    exact(List.Sublist.refl _).append ((List.sublist_cons_self n ns).append (List.Sublist.refl _))
   | nil=>
    rw[hn]at h
    cases hm:minP s.far with
    | none=>rw[hm]at h;cases h
    | some p=>
     rw[hm]at h
     cases h
     refine⟨W.begin K rfl rfl rfl hf.symm (Nat.zero_le _) (List.length_erase_le ..) ?_,by simp[LS.begins,LS.begin]⟩
     unfold LS.line
     rw[hn,h0]
     exact(List.Sublist.refl _).append ((List.Sublist.refl _).append (List.erase_sublist.map _))
theorem LS.Wf.new{cast:List Hn} {ns:List Str} (nd:ns.Nodup) (sub:∀n∈ns,n∈cast.map (·.name)):(LS.new ns).Wf cast:=
 ⟨Nat.le_refl _,Nat.le_refl _,Nat.le_refl _,Nat.le_refl _,nd,sub,(fun _ z=>by cases z),(fun _ z=>by cases z),(fun _ z=>by cases z),List.nodup_nil⟩
theorem Z4C{l:Addr} {cs:List Int} {i:Nat} {Q:pV} (hK:C.K=KL C.w.params) (hr:A.depth<recursionLimit) (hh:A.handled=none) (hl:LstAt C σ l (cs.map V.int)) (hz:cs.length≤1000) (hi:i≤1000) (h:Q (.int (cs.getD i 0)) σ):CallWP C A (.ref 331) [.ref l,.int i] σ Q X:=by
 revert C A σ X l cs i Q;k_extra "e8";intro C A σ X l cs i Q hK hr hh hl hz hi h
 k_extra "mdef2"
 intro L A' a1 a2 a3
 k_extra "M"
 by_cases q:i<cs.length
 ·refine Br.f (by simp;exact Y7T q) ?_
  k_extra "M"
  refine ItemWP.list (y:=.int (cs.getD i 0)) hl (by exact Y5M) (by exact Y7U hi) (by simp[q]) ?_
  k_extra "M"
  exact h
 ·refine Br.t (by simp;exact Y7V q) ?_
  k_extra "M"
  have e:cs.getD i 0=0:=by simp[Nat.le_of_not_lt q]
  rw[e]at h;exact h
theorem CmpL.invIf{env:Env} {ρ:Rho} {α:Type} {x:Str} {ifs:List Expr} {elt:Expr} {ok:Store->Prop} {R:List V->Store->Prop} (enc:α->V) (I:List α->List V->Store->Prop)
  (step:∀y ys out σ,I (y::ys) out σ->Ifs C A env ifs (ρ.put x (enc y)) σ (fun b σ1=>if b then Ev C A env elt (ρ.put x (enc y)) σ1 (fun z σ2=>out.length≤sizeLine∧ok σ2∧I ys (out++[z]) σ2) (fun _ _=>False) else ok σ1∧I ys out σ1) (fun _ _=>False))
  (done:∀out σ,I [] out σ->R out σ):∀ys out σ,I ys out σ->CmpL C A env x ifs elt ok ρ R (ys.map enc) out σ
 | [],out,σ,h=>done out σ h
 | y::ys,out,σ,h=>by
  unfold CmpL
  have mono:∀{P P':Bool->Store->Prop},Ifs C A env ifs (ρ.put x (enc y)) σ P (fun _ _=>False)->(∀b σ,P b σ->P' b σ)->Ifs C A env ifs (ρ.put x (enc y)) σ P' (fun _ _=>False):=by
   intro P P' h k
   match ifs,h with
   | [],h=>exact k _ _ h
   | [c],h=>exact Tst.mono h k
  refine mono (step y ys out σ h) fun b σ1 h1=>?_
  cases b with
  | true=>simp only[if_true]at h1 ⊢;exact h1.mono' fun z σ2 h2=>⟨h2.1,h2.2.1,CmpL.invIf enc I step done ys _ σ2 h2.2.2⟩
  | false=>simp only[Bool.false_eq_true,if_false]at h1 ⊢;exact⟨h1.1,CmpL.invIf enc I step done ys _ σ1 h1.2⟩
theorem Zd(hK:C.K=KL C.w.params) {c k m:Int} {Q:pV} (hr:A.depth<recursionLimit) (hh:A.handled=none) (hm:0<m) (h:∀(r:Int) (σ':Store),Grow σ σ'->0≤r->r<m->Q (.int r) σ'):CallWP C A (.ref 338) [.int c,.int k,.int m] σ Q X:=by
 k_extra "mdef3"
 intro L A' a1 a2 a3
 k_extra "M"
 intro a ha
 k_extra "M"
 have b0:0≤k.fmod 7:=Int.fmod_nonneg_of_pos _ (by(first|lia|omega))
 have b1:k.fmod 7<7:=Int.fmod_lt_of_pos _ (by(first|lia|omega))
 have pr:∀j:Nat,j<7->∃p:Int,(([10007,20011,30011,40009,50021,60013,70001]:List Int).map V.int)[j]?=some (.int p)∧p≠0:=fun j hj=>
  ⟨([10007,20011,30011,40009,50021,60013,70001]:List Int)[j]'hj,by rw[List.getElem?_map,List.getElem?_eq_getElem hj];rfl,(by decide:∀x∈([10007,20011,30011,40009,50021,60013,70001]:List Int),x≠0) _ (List.getElem_mem hj)⟩
 obtain⟨p,hp,hp0⟩:=pr (k.fmod 7).toNat (by exact Y7W b1)
 refine ItemWP.list (y:=.int p) (.inl Store.hit) b0 (by exact Y7X b1) hp ?_
 refine BinWP.fmod_int hp0 ?_
 k_extra "M"
 refine BinWP.fmod_int (by exact Y7Y hm) ?_
 k_extra "M"
 exact h _ _ (Grow.rfl'.fresh ha) (Int.fmod_nonneg_of_pos _ hm) (Int.fmod_lt_of_pos _ hm)
noncomputable def letS (j:Nat):Str:=⟨#[97+j]⟩
theorem Z6N:∀j,j<26->(Str.ofString "abcdefghijklmnopqrstuvwxyz").cps[j]?=some (97+j):=by decide +kernel
theorem Z6O:(Str.ofString "abcdefghijklmnopqrstuvwxyz").length=26:=by decide +kernel
theorem ItemWP.letter{i:Int} {Q:pV} (h0:0≤i) (h1:i<26) (h:Q (.str (letS i.toNat)) σ):ItemWP C A (.str (Str.ofString "abcdefghijklmnopqrstuvwxyz")) (.int i) σ Q X:=by
 refine ItemWP.str (by exact Y7Z h0) (by exact Y8r h1) ?_ h
 rw[Z6O,seqIndex_of h0 (by exact Y8s h1)]
 exact Z6N _ (by exact Y8t h1)
theorem Zg(x y:Str):(x++y).length=x.length+y.length:=by
 show(x.cps++y.cps).size=_
 simp[Str.length]
theorem Z5E:∀j,j<26->inS (Str.ofString "abcdefghijklmnopqrstuvwxyz") ⟨#[97+j]⟩=true:=by decide +kernel
theorem Z69{x:Str} (h:∀c∈x.cps.toList,97≤c∧c<123):okS x=true:=by
 unfold okS
 rw[List.all_map,List.all_eq_true]
 intro c hc
 obtain⟨a,b⟩:=h c hc
 obtain⟨j,rfl⟩:∃j,c=97+j:=⟨c - 97,by exact Y8u a⟩
 exact Z5E j (by exact Y8v b)
noncomputable def Sm (x:Str):Prop:=∀c∈x.cps.toList,97≤c∧c<123
theorem Sm.cat{x y:Str} (h1:Sm x) (h2:Sm y):Sm (x++y):=fun c hc=>by
 rw[Z3H]at hc
 rcases List.mem_append.mp hc with hc|hc
 ·exact h1 c hc
 ·exact h2 c hc
theorem Sm.slice{x:Str} (h:Sm x) (l u:Option Int):Sm (Txt.slice x l u):=fun c hc=>h c (by
 unfold Txt.slice at hc
 split at hc
 ·exact hc
 simp only[List.mem_filterMap]at hc
 obtain⟨i,_,e⟩:=hc
 rw[←Array.getElem?_toList]at e
 exact List.mem_of_getElem? e)
theorem Sm.letter{j:Nat} (h:j<26):Sm (letS j):=fun c hc=>by
 have:c=97+j:=by simpa [letS] using hc
 exact Y8x h this
theorem Z3u:∀ts:List Str,(∀t∈ts,Sm t∧t.length=1)->Sm (Str.join Str.empty ts)∧(Str.join Str.empty ts).length=ts.length
 | [],_=>⟨(fun c hc=>by cases hc),rfl⟩
 | [x],h=>h x (.head _)
 | x::y::r,h=>by
  obtain⟨a,b⟩:=Z3u (y::r) fun z hz=>h z (.tail _ hz)
  have e:Str.join Str.empty (x::y::r)=x++Str.empty++Str.join Str.empty (y::r):=rfl
  rw[e]
  refine⟨((h x (.head _)).1.cat fun c hc=>by cases hc).cat a,?_⟩
  rw[Zg,Zg,b,(h x (.head _)).2]
  have:Str.empty.length=0:=rfl
  simp only[List.length_cons];exact Y8y this
theorem Sm.word{x:Str} (h:Sm x) (h1:1≤x.length) (h2:x.length≤12):isW x=true∧PyData.strOk x=true∧x.length≤1000:=by
 refine⟨?_,?_,by exact Y7o h2⟩
 ·unfold isW;rw[Z69 h];simp[h1,h2]
 ·rw[Z2e];intro c hc;have:=h c hc;exact Y8w this
theorem Z3v{x y:Str} {k:Nat} (hk:k<x.length) (hy:y.length=1):(Txt.slice x none (some (k:Int))++y++Txt.slice x (some ((k:Int)+1)) none).length=x.length:=by
 have hx:x.cps.toList.length=x.length:=by simp[Str.length]
 have e1:=congrArg List.length (Z3F x k (by exact Yd hk))
 have e2:=congrArg List.length (Z3G x (k+1) (by exact Y8j hk))
 have l:∀y:Str,y.length=y.cps.toList.length:=fun y=>by simp[Str.length]
 rw[Zg,Zg,l (Txt.slice x none _),l (Txt.slice x _ none),e1]
 have e3:(Txt.slice x (some ((k:Int)+1)) none).cps.toList.length=x.length-(k+1):=by
  have:((k+1:Nat):Int)=(k:Int)+1:=by exact Y8z
  rw[←this,e2,List.length_drop,hx]
 rw[e3,List.length_take,hx,hy]
 exact Y8A hk
theorem Z1H{b k:Int} {Q:pV} (hK:C.K=KL C.w.params) (hr:A.depth<recursionLimit) (hh:A.handled=none) (h:∀w σ',Grow σ σ'->isW w=true->PyData.strOk w=true->w.length≤1000->Q (.str w) σ'):CallWP C A (.ref 343) [.int b,.int k] σ Q X:=by
 revert C A σ X b k Q;k_extra "e7";intro C A σ X b k Q hK hr hh h
 k_extra "mdef2"
 intro L A' a1 a2 a3
 have hh':A'.handled=none:=a1.trans hh
 have m0:0≤(b.fdiv 26).fmod 12:=Int.fmod_nonneg_of_pos _ (by(first|lia|omega))
 have m1:(b.fdiv 26).fmod 12<12:=Int.fmod_lt_of_pos _ (by(first|lia|omega))
 obtain⟨n,hn⟩:∃n:Nat,1+(b.fdiv 26).fmod 12=n:=⟨(1+(b.fdiv 26).fmod 12).toNat,by exact Y8b m0⟩
 have hn0:(0:Int)<(n:Int):=by exact Y8B m0 hn
 have t0:0≤(b.fdiv 312).fmod n:=Int.fmod_nonneg_of_pos _ hn0
 have t1:(b.fdiv 312).fmod n<n:=Int.fmod_lt_of_pos _ hn0
 obtain⟨a,ha⟩:∃a:Nat,(b.fdiv 312).fmod n=a:=⟨((b.fdiv 312).fmod n).toNat,by exact Y85 t0⟩
 k_extra "M"
 rw[hn]
 k_extra "M"
 refine BinWP.fmod_int (by exact Y8C t0 t1) ?_
 rw[ha]
 k_extra "M"
 refine⟨_,_,ItV.rng hh' (by(first|lia|omega)) (by(first|lia|omega)) (by exact Y8e) (by exact Y8D m1 hn),fun L'=>?_⟩
 refine CmpL.pure (fun _=>true) (fun y=>match y with|.int i=>.str (letS ((b+3*i).fmod 26).toNat)|_=>.none) trivial _ _ ?_ ?_ (by simp[Zs,sizeLine_eq];exact Y8E m1 hn) ?_
 ·intro y hy Q hQ
  k_extra "M"
  exact hQ
 ·intro y hy _ Q hQ
  obtain⟨i,hi,rfl⟩:=List.mem_map.mp hy
  k_extra "M"
  exact ItemWP.letter (Int.fmod_nonneg_of_pos _ (by(first|lia|omega))) (Int.fmod_lt_of_pos _ (by(first|lia|omega))) hQ
 intro x hx
 have e1:([]:List V)++List.map (fun y=>match y with|V.int i=>.str (letS ((b+3*i).fmod 26).toNat)|_=>.none) (List.filter (fun _=>true) (Zs 0 (n:Int)))=((List.range n).map fun(i:Nat)=>letS ((b+3*(0+(i:Int))).fmod 26).toNat).map V.str:=by
  rw[List.nil_append,List.filter_eq_self.mpr (fun _ _=>rfl),Zs,List.map_map,List.map_map,Int.sub_zero,Int.toNat_natCast]
  rfl
 rw[e1]
 have hts:∀y∈(List.range n).map fun(i:Nat)=>letS ((b+3*(0+(i:Int))).fmod 26).toNat,Sm y∧y.length=1:=fun y hy=>by
  obtain⟨i,_,rfl⟩:=List.mem_map.mp hy
  refine⟨Sm.letter ?_,rfl⟩
  have:=Int.fmod_nonneg_of_pos (b+3*(0+(i:Int))) (show(0:Int)<26 by(first|lia|omega))
  have:=Int.fmod_lt_of_pos (b+3*(0+(i:Int))) (show(0:Int)<26 by(first|lia|omega))
  exact Y8t this
 have hlen:((List.range n).map fun(i:Nat)=>letS ((b+3*(0+(i:Int))).fmod 26).toNat).length=n:=by simp
 generalize ((List.range n).map fun(i:Nat)=>letS ((b+3*(0+(i:Int))).fmod 26).toNat)=ts at hts hlen ⊢
 have g1:=Grow.rfl'.fresh (σ:=σ) (o:=.list (ts.map V.str)) hx
 have f1:(σ.upd x (.list (ts.map V.str))) x=some (.list (ts.map V.str)):=Store.hit
 generalize Store.upd σ x _=σ1 at g1 f1 ⊢
 obtain⟨s1,s2⟩:=Z3u ts hts
 rw[←StrLaws.glued_eq_join]at s1 s2
 rw[hlen]at s2
 k_extra "M"
 refine CallWP.join (.inl f1) (Z41 (B:=1) (fun y hy=>Nat.le_of_eq (hts y hy).2) (by exact Y8F m1 hn hlen)) ?_
 have s1:Sm (Txt.join (Str.ofString "") ts):=s1
 have s2:(Txt.join (Str.ofString "") ts).length=n:=s2
 generalize Txt.join (Str.ofString "") ts=text at s1 s2 ⊢
 k_extra "M"
 refine ItemWP.letter (Int.fmod_nonneg_of_pos _ (by(first|lia|omega))) (Int.fmod_lt_of_pos _ (by(first|lia|omega))) ?_
 have q1:=Int.fmod_lt_of_pos (b+5*k) (show(0:Int)<26 by(first|lia|omega))
 have s3:Sm (letS ((b+5*k).fmod 26).toNat):=Sm.letter (by exact Y8t q1)
 have s4:(letS ((b+5*k).fmod 26).toNat).length=1:=rfl
 generalize letS ((b+5*k).fmod 26).toNat=lt at s3 s4 ⊢
 have l1:=Txt.slice_le text none (some (a:Int))
 have l2:=Txt.slice_le text (some ((a:Int)+1)) none
 k_extra "M"
 refine⟨_,rfl,?_⟩
 refine SliceWP.str (by rw[sizeLine_eq];exact Y8G m1 hn s2) ?_
 k_extra "M"
 refine BinWP.add_str ?_ (by rw[sizeLine_eq];exact Y8H m1 hn s2 s4 l1)
 k_extra "M"
 refine⟨_,rfl,?_⟩
 k_extra "M"
 refine SliceWP.str (by rw[sizeLine_eq];exact Y8G m1 hn s2) ?_
 refine BinWP.add_str ?_ (by rw[Zg,sizeLine_eq];exact Y8I m1 hn s2 s4 l1 l2)
 k_extra "M"
 obtain⟨w1,w2,w3⟩:=(((s1.slice none (some (a:Int))).cat s3).cat (s1.slice (some ((a:Int)+1)) none)).word (by rw[Z3v (by exact Y8J t1 ha s2) s4];exact Y8K t1 ha s2) (by rw[Z3v (by exact Y8J t1 ha s2) s4];exact Y8L m1 hn s2)
 exact h _ _ g1 w1 w2 w3
structure NmOk(nm:Nat->Str) (c:Nat):Prop where
 w:∀i,i<c->isW (nm i)=true
 ok:∀i,i<c->PyData.strOk (nm i)=true
 inj:∀i,i<c->∀j,j<c->nm i=nm j->i=j
noncomputable def DG (nm:Nat->Str) (c:Nat) (d:Deed):Prop:=d.Good∧d.Ok∧∀n,(d=.join n∨d=.leave n)->∃i,i<c∧n=nm i
structure HG(nm:Nat->Str) (c i:Nat) (hn:Hn):Prop where
 name:hn.name=nm i
 hears:hn.hears=Str.ofString "" ∨isW hn.hears=true
 hok:PyData.strOk hn.hears=true
 len:hn.ds.length≤30
 ds:∀d∈hn.ds,DG nm c d
noncomputable def AtG (nm:Nat->Str) (σ:Store) (fl:Addr) (c:Nat) (hs:List (Hn×V)):Prop:=∀(i:Nat) (h:i<hs.length),HG nm c i hs[i].1∧∃l,hs[i].2=.ref l∧l≠fl∧σ l=some (.list (hs[i].1.ds.map Deed.v))
section
variable {nm:Nat->Str} {σ σ':Store} {fl l:Addr} {c:Nat} {hs:List (Hn×V)}
theorem AtG.snoc{hn:Hn} (h:AtG nm σ fl c hs) (k:∀x o,x≠fl->σ x=some o->σ' x=some o) (H:HG nm c hs.length hn) (hl:l≠fl) (e:σ' l=some (.list (hn.ds.map Deed.v))):AtG nm σ' fl c (hs++[(hn,.ref l)]):=by
 intro i hi
 by_cases q:i<hs.length
 ·rw[List.getElem_append_left q]
  obtain⟨a,l',b,c',d⟩:=h i q
  exact⟨a,l',b,c',k _ _ c' d⟩
 ·have e4:i=hs.length:=by simp at hi;exact Y89 q hi
  subst e4
  rw[List.getElem_append_right (Nat.le_refl _)]
  simp only[Nat.sub_self,List.getElem_cons_zero]
  exact⟨H,l,rfl,hl,e⟩
theorem AtG.names(h:AtG nm σ fl c hs):hs.map (·.1.name)=(List.range hs.length).map nm:=by
 refine List.ext_getElem (by simp) fun i h1 h2=>?_
 have hi:i<hs.length:=by simpa using h1
 rw[List.getElem_map,List.getElem_map,List.getElem_range]
 exact(h i hi).1.name
theorem NmOk.nd(N:NmOk nm c):((List.range c).map nm).Nodup:=by
 unfold List.Nodup
 rw[List.pairwise_map]
 exact List.nodup_range.imp_of_mem fun{a b} ha hb hne e=>hne (N.inj a (List.mem_range.mp ha) b (List.mem_range.mp hb) e)
theorem AtG.mem(h:AtG nm σ fl c hs) {p:Hn×V} (hp:p∈hs):∃i,i<hs.length∧HG nm c i p.1∧∃l,p.2=.ref l∧σ l=some (.list (p.1.ds.map Deed.v)):=by
 obtain⟨i,hi,rfl⟩:=List.getElem_of_mem hp
 obtain⟨a,l,b,_,d⟩:=h i hi
 exact⟨i,hi,a,l,b,d⟩
theorem AtG.told(N:NmOk nm c) (h:AtG nm σ fl c hs) (hl:hs.length=c) (hc:c≤40):Told σ hs:=by
 refine⟨fun p hp=>?_,fun p hp=>?_,?_,by exact Y8M hl hc,fun p hp d hd n z=>?_⟩
 ·obtain⟨i,hi,H,l,b,d⟩:=h.mem hp
  exact⟨l,b,d⟩
 ·obtain⟨i,hi,H,_⟩:=h.mem hp
  exact⟨by rw[H.name];exact N.w i (by exact Y5q hl hi),H.hears,H.len,fun d hd=>(H.ds d hd).1⟩
 ·rw[h.names,hl];exact N.nd
 ·obtain⟨i,hi,H,_⟩:=h.mem hp
  obtain⟨j,hj,rfl⟩:=(H.ds d hd).2.2 n z
  rw[h.names];exact List.mem_map_of_mem (List.mem_range.mpr (by exact Y5K hl hj))
theorem AtG.cast(N:NmOk nm c) (h:AtG nm σ fl c hs) (hl:hs.length=c) (hc:c≤40):CastOk (hs.map (·.1)):=by
 have en:(hs.map (·.1)).map (·.name)=hs.map (·.1.name):=by rw[List.map_map];rfl
 have get:∀x∈hs.map (·.1),∃i,i<hs.length∧HG nm c i x:=fun x hx=>by
  obtain⟨p,hp,rfl⟩:=List.mem_map.mp hx
  obtain⟨i,hi,H,_⟩:=h.mem hp
  exact⟨i,hi,H⟩
 refine⟨⟨by rw[en,h.names,hl];exact N.nd,by rw[List.length_map];exact Y8N hl hc,fun x hx=>?_,fun x hx=>?_⟩,by rw[List.length_map];exact Y8M hl hc,fun x hx=>?_,fun x hx d hd=>?_⟩
 ·obtain⟨i,hi,H⟩:=get x hx;exact H.hok
 ·obtain⟨i,hi,H⟩:=get x hx;rw[H.name];exact N.ok i (by exact Y5q hl hi)
 ·obtain⟨i,hi,H⟩:=get x hx;exact H.len
 ·obtain⟨i,hi,H⟩:=get x hx
  refine⟨(H.ds d hd).2.1,fun n z=>?_⟩
  obtain⟨j,hj,rfl⟩:=(H.ds d hd).2.2 n z
  rw[en,h.names];exact List.mem_map_of_mem (List.mem_range.mpr (by exact Y5K hl hj))
end
theorem DG.now{nm:Nat->Str} {c:Nat} {w:Str} (h:isW w=true) (k:PyData.strOk w=true):DG nm c (.now w):=⟨h,k,fun n z=>by rcases z with e|e<;>cases e⟩
theorem DG.soon{nm:Nat->Str} {c:Nat} {w:Str} (h:isW w=true) (k:PyData.strOk w=true):DG nm c (.soon w):=⟨h,k,fun n z=>by rcases z with e|e<;>cases e⟩
theorem DG.cancel{nm:Nat->Str} {c:Nat} {w:Str} (h:isW w=true) (k:PyData.strOk w=true):DG nm c (.cancel w):=⟨h,k,fun n z=>by rcases z with e|e<;>cases e⟩
theorem DG.wait{nm:Nat->Str} {c:Nat} {w:Str} {t:Int} (h0:0≤t) (h1:t≤1000000000) (h:isW w=true) (k:PyData.strOk w=true):DG nm c (.wait t w):=⟨⟨h0,h1,h⟩,k,fun n z=>by rcases z with e|e<;>cases e⟩
theorem DG.hush{nm:Nat->Str} {c:Nat}:DG nm c .hush:=⟨trivial,trivial,fun n z=>by rcases z with e|e<;>cases e⟩
theorem DG.join{nm:Nat->Str} {c i:Nat} (N:NmOk nm c) (hi:i<c):DG nm c (.join (nm i)):=⟨N.w i hi,trivial,fun n z=>⟨i,hi,by rcases z with e|e<;>cases e;rfl⟩⟩
theorem DG.leave{nm:Nat->Str} {c i:Nat} (N:NmOk nm c) (hi:i<c):DG nm c (.leave (nm i)):=⟨N.w i hi,trivial,fun n z=>⟨i,hi,by rcases z with e|e<;>cases e;rfl⟩⟩
theorem Z4D:∀l:List (Int×Int),l≠[]->∃p∈l,∀q∈l,lexlt q p=false
 | [x],_=>⟨x,.head _,fun q hq=>by rw[List.mem_singleton.mp hq,lexlt_false];(first|lia|omega)⟩
 | x::y::l,_=>by
  obtain⟨p,hp,hm⟩:=Z4D (y::l) (by simp)
  cases c:lexlt x p with
  | false=>
   refine⟨p,.tail _ hp,fun q hq=>?_⟩
   rcases List.mem_cons.mp hq with rfl|hq
   ·exact c
   ·exact hm q hq
  | true=>
   refine⟨x,.head _,fun q hq=>?_⟩
   rcases List.mem_cons.mp hq with rfl|hq
   ·rw[lexlt_false];(first|lia|omega)
   ·have h1:=lexlt_false.mp (hm q hq)
    have h2:=lexlt_iff.mp c
    rw[lexlt_false];(first|lia|omega)
theorem Z4E{l:List (Int×Int)} (h:minP l=none):l=[]:=by
 cases e:l with
 | nil=>rfl
 | cons x r=>
  obtain⟨p,hp,hm⟩:=Z4D l (by rw[e];simp)
  rw[Z12 hp hm]at h;cases h
inductive Mv(cast:List Hn) (s:LS):Row->LS->Prop
 | send (w:Str) (hw:PyData.strOk w=true):Mv cast s (.send s.events.length) (s.send w)
 | born (n:Int) (h:s.fresh=some n):Mv cast s (.beg n s.time) (LS.begins cast { s with fresh:=none } n)
 | near (n:Int) (ns:List Int) (h0:s.fresh=none) (hf:s.frames=[]) (hn:s.near=n::ns):Mv cast s (.beg n s.time) (LS.begins cast { s with near:=ns } n)
 | far (p:Int×Int) (h0:s.fresh=none) (hf:s.frames=[]) (hn:s.near=[]) (hp:minP s.far=some p):Mv cast s (.beg p.2 (max s.time p.1)) (LS.begins cast { s with far:=s.far.erase p,time:=max s.time p.1 } p.2)
 | make (f:Frm) (fr:List Frm) (d:Deed) (ds:List Deed) (h0:s.fresh=none) (hf:s.frames=f::fr) (hd:f.deeds=d::ds) (w:Str) (k:d=.now w∨d=.soon w∨∃t,d=.wait t w):Mv cast s (.make f.num s.events.length) (LS.deed { s with frames:={ f with deeds:=ds }::fr } f.num d)
 | cancel (f:Frm) (fr:List Frm) (ds:List Deed) (w:Str) (h0:s.fresh=none) (hf:s.frames=f::fr) (hd:f.deeds=.cancel w::ds):Mv cast s (.cancel f.num (Zu ((s.near++s.far.map (·.2)).filter fun x=>s.wordOf x==w))) (LS.cancel { s with frames:={ f with deeds:=ds }::fr } f.num w)
 | join (f:Frm) (fr:List Frm) (ds:List Deed) (n:Str) (h0:s.fresh=none) (hf:s.frames=f::fr) (hd:f.deeds=.join n::ds):Mv cast s (.join f.num n) (LS.deed { s with frames:={ f with deeds:=ds }::fr } f.num (.join n))
 | leave (f:Frm) (fr:List Frm) (ds:List Deed) (n:Str) (h0:s.fresh=none) (hf:s.frames=f::fr) (hd:f.deeds=.leave n::ds):Mv cast s (.leave f.num n) (LS.deed { s with frames:={ f with deeds:=ds }::fr } f.num (.leave n))
 | hush (f:Frm) (fr:List Frm) (ds:List Deed) (h0:s.fresh=none) (hf:s.frames=f::fr) (hd:f.deeds=.hush::ds):Mv cast s (.hush f.num) (LS.deed { s with frames:={ f with deeds:=ds }::fr } f.num .hush)
 | call (f:Frm) (fr:List Frm) (h:Hn) (cs:List Str) (h0:s.fresh=none) (hf:s.frames=f::fr) (hd:f.deeds=[]) (hc:f.calls=h.name::cs) (hh:h∈cast):Mv cast s (.call f.num h.name) (LS.callIn { s with frames:={ f with calls:=cs }::fr } f.num h)
 | fin (f:Frm) (fr:List Frm) (h0:s.fresh=none) (hf:s.frames=f::fr) (hd:f.deeds=[]) (hc:f.calls=[]):Mv cast s (.fin f.num) { s with frames:=fr,log:=s.log++[.fin f.num] }
theorem LS.step_mv{cast:List Hn} {s s':LS} (K:CastOk cast) (W:s.Wf cast) (h:s.step cast=some s'):∃r,Mv cast s r s'∧∀n,r≠.send n:=by
 unfold LS.step at h
 cases h0:s.fresh with
 | some n=>rw[h0]at h;cases h;exact⟨_,.born n h0,fun _ e=>by cases e⟩
 | none=>
  rw[h0]at h
  cases hf:s.frames with
  | cons f fr=>
   rw[hf]at h
   cases h
   unfold LS.goOn
   rw[hf]
   dsimp only
   cases hd:f.deeds with
   | cons d ds=>
    cases d with
    | now w=>exact⟨_,.make f fr _ ds h0 hf hd w (.inl rfl),fun _ e=>by cases e⟩
    | soon w=>exact⟨_,.make f fr _ ds h0 hf hd w (.inr (.inl rfl)),fun _ e=>by cases e⟩
    | wait t w=>exact⟨_,.make f fr _ ds h0 hf hd w (.inr (.inr ⟨t,rfl⟩)),fun _ e=>by cases e⟩
    | cancel w=>exact⟨_,.cancel f fr ds w h0 hf hd,fun _ e=>by cases e⟩
    | join n=>exact⟨_,.join f fr ds n h0 hf hd,fun _ e=>by cases e⟩
    | leave n=>exact⟨_,.leave f fr ds n h0 hf hd,fun _ e=>by cases e⟩
    | hush=>exact⟨_,.hush f fr ds h0 hf hd,fun _ e=>by cases e⟩
   | nil=>
    dsimp only
    cases hc:f.calls with
    | cons n cs=>
     obtain⟨x,hx,rfl⟩:=List.mem_map.mp ((W.fm f (by rw[hf];exact .head _)).cn n (by rw[hc];exact .head _))
     dsimp only
     rw[Z1i K.K hx]
     exact⟨_,.call f fr x cs h0 hf hd hc hx,fun _ e=>by cases e⟩
    | nil=>exact⟨_,.fin f fr h0 hf hd hc,fun _ e=>by cases e⟩
  | nil=>
   rw[hf]at h
   cases hn:s.near with
   | cons n ns=>
    rw[hn]at h
    cases h
    have q:=Mv.near (cast:=cast) n ns h0 hf hn
    rw[hf,h0]at q
    exact⟨_,q,fun _ e=>by cases e⟩
   | nil=>
    rw[hn]at h
    cases hm:minP s.far with
    | none=>rw[hm]at h;cases h
    | some p=>
     rw[hm]at h
     cases h
     have q:=Mv.far (cast:=cast) p h0 hf hn hm
     rw[hf,h0,hn]at q
     exact⟨_,q,fun _ e=>by cases e⟩
theorem Mv.log{cast:List Hn} {s s':LS} {r:Row} (h:Mv cast s r s'):s'.log=s.log++[r]:=by
 cases h with
 | make f fr d ds h0 hf hd w k=>rcases k with rfl|rfl|⟨t,rfl⟩<;>rfl
 | _=>rfl
theorem Mv.evs{cast:List Hn} {s s':LS} {r:Row} (h:Mv cast s r s'):∃es,s'.events=s.events++es:=by
 have no:s.events=s.events++[]:=(List.append_nil _).symm
 cases h with
 | send w=>exact⟨_,rfl⟩
 | make f fr d ds h0 hf hd w k=>rcases k with rfl|rfl|⟨t,rfl⟩<;>exact⟨_,rfl⟩
 | call f fr h cs=>
  refine⟨[],?_⟩
  rw[List.append_nil]
  simp only[LS.callIn,LS.got]
  split<;>rfl
 | hush f fr ds=>exact⟨[],no⟩
 | _=>exact⟨[],no⟩
noncomputable def Hist (cast:List Hn) (P:LS->Prop):LS->List (Row×LS)->LS->Prop
 | s,[],t=>s=t
 | s,(r,s')::l,t=>Mv cast s r s'∧P s'∧Hist cast P s' l t
theorem Hist.snoc{cast:List Hn} {P:LS->Prop} {t t':LS} {r:Row} (h:Mv cast t r t') (p:P t'):∀{s:LS} {l:List (Row×LS)},Hist cast P s l t->Hist cast P s (l++[(r,t')]) t'
 | s,[],e=>by cases e;exact⟨h,p,rfl⟩
 | s,(q,s')::l,⟨a,b,c⟩=>⟨a,b,Hist.snoc h p c⟩
theorem Hist.log{cast:List Hn} {P:LS->Prop} {t:LS}:∀{s:LS} {l:List (Row×LS)},Hist cast P s l t->t.log=s.log++l.map (·.1)
 | s,[],e=>by cases e;simp
 | s,(q,s')::l,⟨a,b,c⟩=>by rw[Hist.log c,a.log];simp
theorem Hist.evs{cast:List Hn} {P:LS->Prop} {t:LS}:∀{s:LS} {l:List (Row×LS)},Hist cast P s l t->∃es,t.events=s.events++es
 | s,[],e=>by cases e;exact⟨[],(List.append_nil _).symm⟩
 | s,(q,s')::l,⟨a,b,c⟩=>by
  obtain⟨e1,h1⟩:=a.evs
  obtain⟨e2,h2⟩:=Hist.evs c
  exact⟨e1++e2,by rw[h2,h1,List.append_assoc]⟩
structure O9 where
 time:Int
 soon:List Int
 late:List (Int×Int)
 born:Option Int
 around:List Int
noncomputable def keys (d:List (Int×Int)):List Int:=d.map (·.1)
noncomputable def swp (p:Int×Int):Int×Int:=(p.2,p.1)
noncomputable def own9 (s:LS):O9:=⟨s.time,s.near,s.far.map swp,s.fresh,(s.frames.map (·.num)).reverse⟩
theorem Z2a{s t:LS} (h1:t.time=s.time) (h2:t.near=s.near) (h3:t.far=s.far) (h4:t.fresh=s.fresh) (h5:t.frames.map (·.num)=s.frames.map (·.num)):own9 s=own9 t:=by unfold own9;rw[h1,h2,h3,h4,h5]
theorem Z5F(l:List (Int×Int)):(l.map swp).map swp=l:=by
 rw[List.map_map];exact List.map_id _
theorem Z19(l:List (Int×Int)):keys (l.map swp)=l.map (·.2):=by unfold keys;rw[List.map_map];rfl
noncomputable def mn (late:List (Int×Int)):Option (Int×Int):=minP (late.map swp)
theorem Z1j{l:List (Int×Int)} {p:Int×Int} (h:minP l=some p):p∈l∧∀q∈l,lexlt q p=false:=by
 refine⟨List.mem_of_find?_eq_some h,fun q hq=>?_⟩
 have h1:=List.find?_some h
 simpa using List.all_eq_true.mp h1 q hq
theorem Z2l(p:Int×Int):lexlt p p=false:=by rw[lexlt_false];(first|lia|omega)
theorem Z4F(l:List (Int×Int)) (q:Int×Int):minP (l++[q])=some (match minP l with|none=>q|some b=>if lexlt q b then q else b):=by
 cases e:minP l with
 | none=>
  cases Z4E e
  refine Z12 (.head _) fun r hr=>?_
  rw[List.mem_singleton.mp hr];exact Z2l q
 | some b=>
  obtain⟨hb,hm⟩:=Z1j e
  dsimp only
  cases c:lexlt q b with
  | false=>
   rw[if_neg (by simp)]
   refine Z12 (List.mem_append_left _ hb) fun r hr=>?_
   rcases List.mem_append.mp hr with z|z
   ·exact hm r z
   ·rw[List.mem_singleton.mp z];exact c
  | true=>
   rw[if_pos rfl]
   refine Z12 (List.mem_append_right _ (.head _)) fun r hr=>?_
   rcases List.mem_append.mp hr with z|z
   ·have h1:=lexlt_false.mp (hm r z)
    have h2:=lexlt_iff.mp c
    rw[lexlt_false];(first|lia|omega)
   ·rw[List.mem_singleton.mp z];exact Z2l q
theorem Z5G(l:List (Int×Int)) (e:Int×Int):mn (l++[e])=some (match mn l with|none=>swp e|some b=>if lexlt (swp e) b then swp e else b):=by
 unfold mn
 rw[List.map_append];exact Z4F _ _
noncomputable def del9 (d:List (Int×Int)) (k:Int):List (Int×Int):=d.filter fun p=>!decide (p.1=k)
inductive Bg9(x:O9) (n t:Int):O9->Prop
 | born (h:x.born=some n) (e:t=x.time):Bg9 x n t { x with born:=none }
 | soon (ns:List Int) (h:x.born=none) (ha:x.around=[]) (hs:x.soon=n::ns) (e:t=x.time):Bg9 x n t { x with soon:=ns }
 | late (p:Int×Int) (h:x.born=none) (ha:x.around=[]) (hs:x.soon=[]) (hm:mn x.late=some p) (en:n=p.2) (e:t=max x.time p.1):Bg9 x n t { x with late:=del9 x.late n,time:=t }
structure Mk9(x:O9) (n:Int) (e:Evt) (mk:Option Int):Prop where
 who:e.maker=mk
 road:e.road=Str.ofString "now" ∨e.road=Str.ofString "soon" ∨e.road=Str.ofString "wait"
 due:e.road≠Str.ofString "wait" ->e.due=x.time
 le:x.time≤e.due
 top:mk=none->e.road=Str.ofString "wait" ∧e.due=x.time
 new:n∉keys x.late
noncomputable def mk9 (x:O9) (n:Int) (e:Evt):O9:=
 if e.road=Str.ofString "now" then{ x with born:=some n } else if e.road=Str.ofString "soon" then{ x with soon:=x.soon++[n] } else{ x with late:=x.late++[(n,e.due)] }
structure Cn9(x:O9) (ns:List Int) (evs:List Evt) (w:Str):Prop where
 sub:∀k∈ns,0≤k∧k<evs.length
 srt:ns=Zu ((x.soon++keys x.late).filter fun k=>ns.contains k)
 word:∀k∈ns,(evs[k.toNat]?).map (·.word)=some w
 rest:∀k∈x.soon++keys x.late,k∉ns->(0≤k∧k<evs.length)∧(evs[k.toNat]?).map (·.word)≠some w
 nd:(keys x.late).Nodup
 ok:∀e∈evs,PyData.strOk e.word=true
noncomputable def cn9 (x:O9) (ns:List Int):O9:={ x with soon:=x.soon.filter fun k=>!ns.contains k,late:=x.late.filter fun p=>!ns.contains p.1 }
inductive Rw9(evs:List Evt) (x:O9):Row->O9->Prop
 | beg (n t:Int) (y:O9) (h:Bg9 x n t y):Rw9 evs x (.beg n t) { y with around:=y.around++[n] }
 | fin (n:Int) (r:List Int) (m:Int) (h:x.around=r++[m]):Rw9 evs x (.fin n) { x with around:=r }
 | send (n:Int) (e:Evt) (h0:0≤n) (he:evs[n.toNat]?=some e) (h:Mk9 x n e none):Rw9 evs x (.send n) (mk9 x n e)
 | make (m n:Int) (e:Evt) (h0:0≤n) (he:evs[n.toNat]?=some e) (h:Mk9 x n e (some m)):Rw9 evs x (.make m n) (mk9 x n e)
 | cancel (n:Int) (ns:List Int) (w:Str) (h:Cn9 x ns evs w):Rw9 evs x (.cancel n ns) (cn9 x ns)
 | call (n:Int) (h:Str):Rw9 evs x (.call n h) x
 | join (n:Int) (h:Str):Rw9 evs x (.join n h) x
 | leave (n:Int) (h:Str):Rw9 evs x (.leave n h) x
 | hush (n:Int):Rw9 evs x (.hush n) x
noncomputable def Deed.Pos:Deed->Prop
 | .wait t _=>0≤t
 | _=>True
noncomputable def LS.Pos (s:LS):Prop:=∀f∈s.frames,∀d∈f.deeds,d.Pos
theorem Z6a{α β:Type} {f:α->β} {l:List α} (h:(l.map f).Nodup):∀{a b:α},a∈l->b∈l->f a=f b->a=b:=by
 induction l with
 | nil=>intro a b ha;cases ha
 | cons x l ih=>
  rw[List.map_cons,List.nodup_cons]at h
  intro a b ha hb e
  rcases List.mem_cons.mp ha with z1|z1
  ·rcases List.mem_cons.mp hb with z2|z2
   ·rw[z1,z2]
   ·exact(h.1 (List.mem_map.mpr ⟨b,z2,by rw[←e,z1]⟩)).elim
  ·rcases List.mem_cons.mp hb with z2|z2
   ·exact(h.1 (List.mem_map.mpr ⟨a,z1,by rw[e,z2]⟩)).elim
   ·exact ih h.2 z1 z2 e
theorem Z4G{l:List (Int×Int)} (h:(l.map (·.2)).Nodup) {p:Int×Int} (hp:p∈l):(l.erase p).map swp=del9 (l.map swp) p.2:=by
 have nd:l.Nodup:=(List.pairwise_map.mp h).imp fun z e=>z (congrArg _ e)
 rw[nd.erase_eq_filter]
 unfold del9
 rw[List.filter_map]
 congr 1
 refine List.filter_congr fun q hq=>?_
 rw[Bool.eq_iff_iff]
 simp only[bne_iff_ne,ne_eq,Function.comp,swp,Bool.not_eq_true']
 constructor
 ·exact fun z=>decide_eq_false fun e=>z (Z6a h hq hp e)
 ·exact fun z e=>of_decide_eq_false z (congrArg _ e)
theorem ZT(cast:List Hn) (s:LS) (n:Int):own9 (LS.begins cast s n)={ own9 s with around:=(own9 s).around++[n] }:=by
 simp[own9,LS.begins,LS.begin]
theorem LS.wordOf_eq{s:LS} {k:Int} (h0:0≤k) (h1:k<s.events.length):(s.events[k.toNat]?).map (·.word)=some (s.wordOf k):=by
 unfold LS.wordOf
 rw[List.getElem?_eq_getElem (by(first|lia|omega))];rfl
theorem Mv.row9{cast:List Hn} {s s':LS} {r:Row} {evs es:List Evt} (W:s.Wf cast) (P:s.Pos) (he:evs=s'.events++es) (hok:∀e∈evs,PyData.strOk e.word=true) (m:Mv cast s r s'):Rw9 evs (own9 s) r (own9 s'):=by
 have lnd:=W.nd
 have lnu:=W.nums
 unfold LS.line at lnd lnu
 have fnd:(s.far.map (·.2)).Nodup:=(List.nodup_append.mp (List.nodup_append.mp lnd).2.1).2.1
 have new:((s.events.length:Int))∉keys (own9 s).late:=by
  show _∉keys (s.far.map swp)
  rw[Z19]
  intro z
  have:=(lnu _ (List.mem_append_right _ (List.mem_append_right _ z))).2
  (first|lia|omega)
 have nth:∀e,s'.events=s.events++[e]->evs[((s.events.length:Int)).toNat]?=some e:=fun e h=>by
  rw[he,h,Int.toNat_natCast,List.append_assoc,List.getElem?_append_right (Nat.le_refl _)];simp
 have n1:Str.ofString "soon" ≠Str.ofString "now":=by decide +kernel
 have n2:Str.ofString "wait" ≠Str.ofString "now":=by decide +kernel
 have n3:Str.ofString "wait" ≠Str.ofString "soon":=by decide +kernel
 cases m with
 | send w hw=>
  have q:=Rw9.send (evs:=evs) (x:=own9 s) _ ⟨w,none,Str.ofString "wait",s.time⟩ (by(first|lia|omega)) (nth _ rfl) ⟨rfl,.inr (.inr rfl),fun _=>rfl,Int.le_refl _,fun _=>⟨rfl,rfl⟩,new⟩
  unfold mk9 at q
  rw[if_neg n2,if_neg n3]at q
  refine Eq.mp (congrArg _ ?_) q
  simp[own9,LS.send,swp]
 | born n h=>
  rw[ZT]
  exact .beg n s.time _ (.born (x:=own9 s) h rfl)
 | near n ns h0 hf hn=>
  rw[ZT]
  exact .beg n s.time _ (.soon (x:=own9 s) ns h0 (by show(s.frames.map (·.num)).reverse=[];rw[hf];rfl) hn rfl)
 | far p h0 hf hn hp=>
  rw[ZT]
  have e:own9 { s with far:=s.far.erase p,time:=max s.time p.1 }={ own9 s with late:=del9 (own9 s).late p.2,time:=max s.time p.1 }:=by
   unfold own9
   rw[←Z4G fnd (Z1j hp).1]
  rw[e]
  exact .beg p.2 _ _ (.late (x:=own9 s) p h0 (by show(s.frames.map (·.num)).reverse=[];rw[hf];rfl) hn (by show minP ((s.far.map swp).map swp)=_;rw[Z5F];exact hp) rfl rfl)
 | make f fr d ds h0 hf hd w k=>
  have ef:(own9 s).around=((f::fr).map (·.num)).reverse:=by rw[←hf];rfl
  have pd:=P f (by rw[hf];exact .head _) d (by rw[hd];exact .head _)
  rcases k with rfl|rfl|⟨t,rfl⟩
  ·have q:=Rw9.make (evs:=evs) (x:=own9 s) f.num _ ⟨w,some f.num,Str.ofString "now",s.time⟩ (by(first|lia|omega)) (nth _ rfl) ⟨rfl,.inl rfl,fun _=>rfl,Int.le_refl _,(fun z=>by cases z),new⟩
   unfold mk9 at q
   rw[if_pos rfl]at q
   refine Eq.mp (congrArg _ ?_) q
   simp[own9,LS.deed,LS.make,hf]
  ·have q:=Rw9.make (evs:=evs) (x:=own9 s) f.num _ ⟨w,some f.num,Str.ofString "soon",s.time⟩ (by(first|lia|omega)) (nth _ rfl) ⟨rfl,.inr (.inl rfl),fun _=>rfl,Int.le_refl _,(fun z=>by cases z),new⟩
   unfold mk9 at q
   rw[if_neg n1,if_pos rfl]at q
   refine Eq.mp (congrArg _ ?_) q
   simp[own9,LS.deed,LS.make,hf]
  ·have q:=Rw9.make (evs:=evs) (x:=own9 s) f.num _ ⟨w,some f.num,Str.ofString "wait",s.time+t⟩ (by(first|lia|omega)) (nth _ rfl) ⟨rfl,.inr (.inr rfl),fun z=>absurd rfl z,(by show s.time≤s.time+t;have:0≤t:=pd;(first|lia|omega)),(fun z=>by cases z),new⟩
   unfold mk9 at q
   rw[if_neg n2,if_neg n3]at q
   refine Eq.mp (congrArg _ ?_) q
   simp[own9,LS.deed,LS.make,hf,swp]
 | cancel f fr ds w h0 hf hd=>
  have hev:(LS.cancel { s with frames:={ f with deeds:=ds }::fr } f.num w).events=s.events:=rfl
  rw[hev]at he
  have hrange:∀k∈s.near++s.far.map (·.2),0≤k∧k<s.events.length:=fun k hk=>lnu k (List.mem_append_right _ hk)
  have hw:∀k:Int,0≤k->k<s.events.length->(evs[k.toNat]?).map (·.word)=some (s.wordOf k):=fun k h0 h1=>by
   rw[he,List.getElem?_append_left (by(first|lia|omega))];exact LS.wordOf_eq h0 h1
  have hlen:s.events.length≤evs.length:=by rw[he];simp
  have hmem:∀k,k∈Zu ((s.near++s.far.map (·.2)).filter fun x=>s.wordOf x==w)↔k∈s.near++s.far.map (·.2)∧s.wordOf k=w:=fun k=>by
   rw[(ZH _).mem_iff,List.mem_filter,beq_iff_eq]
  have hk:(own9 s).soon++keys (own9 s).late=s.near++s.far.map (·.2):=by
   show s.near++keys (s.far.map swp)=_
   rw[Z19]
  have hct:∀k∈s.near++s.far.map (·.2),(Zu ((s.near++s.far.map (·.2)).filter fun x=>s.wordOf x==w)).contains k=(s.wordOf k==w):=fun k hk=>by
   rw[Bool.eq_iff_iff,List.contains_iff_mem,hmem,beq_iff_eq]
   exact⟨fun z=>z.2,fun z=>⟨hk,z⟩⟩
  have q:=Rw9.cancel (evs:=evs) (x:=own9 s) f.num (Zu ((s.near++s.far.map (·.2)).filter fun x=>s.wordOf x==w)) w ⟨fun k z=>?_,?_,fun k z=>?_,fun k z nz=>?_,?_,hok⟩
  ·refine Eq.mp (congrArg _ ?_) q
   show cn9 (own9 s) _=own9 (LS.cancel { s with frames:={ f with deeds:=ds }::fr } f.num w)
   unfold cn9 own9 LS.cancel
   simp only[hf,List.map_cons]
   congr 1
   ·refine List.filter_congr fun k hk=>?_
    rw[hct k (List.mem_append_left _ hk)];rfl
   ·rw[List.filter_map]
    congr 1
    refine List.filter_congr fun p hp=>?_
    show(!List.contains _ p.2)=_
    rw[hct p.2 (List.mem_append_right _ (List.mem_map.mpr ⟨p,hp,rfl⟩))];rfl
  ·have h1:=hrange k ((hmem k).mp z).1
   (first|lia|omega)
  ·rw[hk]
   congr 1
   exact(List.filter_congr fun k hk=>hct k hk).symm
  ·have h1:=(hmem k).mp z
   have h2:=hrange k h1.1
   rw[hw k h2.1 h2.2,h1.2]
  ·rw[hk]at z
   have h2:=hrange k z
   refine⟨by(first|lia|omega),?_⟩
   rw[hw k h2.1 h2.2]
   intro e
   exact nz ((hmem k).mpr ⟨z,Option.some.inj e⟩)
  ·show(keys (s.far.map swp)).Nodup
   rw[Z19];exact fnd
 | join f fr ds n h0 hf hd=>
  have q:=Rw9.join (evs:=evs) (x:=own9 s) f.num n
  refine Eq.mp (congrArg _ ?_) q
  simp[own9,LS.deed,LS.join,LS.away,LS.setCalls,Frm.away,hf]
 | leave f fr ds n h0 hf hd=>
  have q:=Rw9.leave (evs:=evs) (x:=own9 s) f.num n
  refine Eq.mp (congrArg _ (Z2a (s:=s) (by rfl) (by rfl) (by rfl) (by rfl) ?_)) q
  simp[LS.deed,LS.away,LS.setCalls,Frm.away,hf]
 | hush f fr ds h0 hf hd=>
  have q:=Rw9.hush (evs:=evs) (x:=own9 s) f.num
  refine Eq.mp (congrArg _ ?_) q
  simp[own9,LS.deed,LS.join,LS.away,LS.setCalls,Frm.away,hf]
 | call f fr h cs h0 hf hd hc hh=>
  have q:=Rw9.call (evs:=evs) (x:=own9 s) f.num h.name
  refine Eq.mp (congrArg _ ?_) q
  unfold LS.callIn LS.got
  by_cases ho:h.once=true
  ·rw[if_pos ho]
   refine Z2a (s:=s) rfl rfl rfl rfl ?_
   simp[LS.setDeeds,LS.away,Frm.away,hf]
  ·rw[if_neg ho]
   refine Z2a (s:=s) rfl rfl rfl rfl ?_
   simp[LS.setDeeds,LS.away,Frm.away,hf]
 | fin f fr h0 hf hd hc=>
  have q:=Rw9.fin (evs:=evs) (x:=own9 s) f.num (fr.map (·.num)).reverse f.num (by show(s.frames.map (·.num)).reverse=_;rw[hf];simp)
  exact q
theorem Mv.pos{cast:List Hn} {s s':LS} {r:Row} (K:∀h∈cast,∀d∈h.ds,d.Pos) (P:s.Pos) (m:Mv cast s r s'):s'.Pos:=by
 have top:∀{f:Frm} {fr:List Frm} {d:Deed} {ds:List Deed},s.frames=f::fr->f.deeds=d::ds->∀g∈({ f with deeds:=ds }:Frm)::fr,∀d∈g.deeds,d.Pos:=fun{f fr d ds} hf hd g hg=>by
  rcases List.mem_cons.mp hg with rfl|hg
  ·exact fun d' z=>P f (by rw[hf];exact .head _) d' (by rw[hd];exact .tail _ z)
  ·exact P g (by rw[hf];exact .tail _ hg)
 have beg:∀{t:LS} {n:Int},t.frames=s.frames->(LS.begins cast t n).Pos:=fun{t n} e g hg=>by
  have hg:g∈(⟨n,_,[]⟩:Frm)::t.frames:=hg
  rcases List.mem_cons.mp hg with rfl|hg
  ·exact fun d z=>by cases z
  ·rw[e]at hg;exact P g hg
 have map:∀{l:List Frm} {n:Str},(∀g∈l,∀d∈g.deeds,d.Pos)->∀g∈l.map (Frm.away n),∀d∈g.deeds,d.Pos:=fun{l n} h g hg=>by
  obtain⟨f,hf,rfl⟩:=List.mem_map.mp hg
  exact h f hf
 cases m with
 | send w hw=>exact P
 | born n h=>exact beg rfl
 | near n ns h0 hf hn=>exact beg rfl
 | far p h0 hf hn hp=>exact beg rfl
 | make f fr d ds h0 hf hd w k=>rcases k with rfl|rfl|⟨t,rfl⟩<;>exact top hf hd
 | cancel f fr ds w h0 hf hd=>exact top hf hd
 | join f fr ds n h0 hf hd=>exact top hf hd
 | leave f fr ds n h0 hf hd=>exact map (top hf hd)
 | hush f fr ds h0 hf hd=>
  intro g hg
  have hg:g∈({ f with calls:=[],deeds:=ds }:Frm)::fr:=hg
  rcases List.mem_cons.mp hg with rfl|hg
  ·exact fun d z=>top hf hd { f with deeds:=ds } (.head _) d z
  ·exact top hf hd g (.tail _ hg)
 | call f fr h cs h0 hf hd hc hh=>
  have new:∀g∈({ f with calls:=cs,deeds:=h.ds }:Frm)::fr,∀d∈g.deeds,d.Pos:=fun g hg=>by
   rcases List.mem_cons.mp hg with rfl|hg
   ·exact K h hh
   ·exact P g (by rw[hf];exact .tail _ hg)
  unfold LS.callIn LS.got
  by_cases ho:h.once=true
  ·rw[if_pos ho];exact map new
  ·rw[if_neg ho];exact new
 | fin f fr h0 hf hd hc=>exact fun g hg=>P g (by rw[hf];exact .tail _ hg)
noncomputable def hN (i:Nat):Str:=Str.ofString "h" ++ (⟨#[97+i]⟩:Str)
theorem Z6b:∀i,i<5->isW (hN i)=true:=by decide +kernel
theorem Z6P:∀i,i<5->PyData.strOk (hN i)=true:=by decide +kernel
theorem Z6c:∀i,i<5->∀j,j<5->hN i=hN j->i=j:=by decide +kernel
theorem Z5j:(Str.ofString "h").length=1:=by decide +kernel
theorem Z6d:∀i,i<5->(Str.ofString "abcde").cps[i]?=some (97+i):=by decide +kernel
theorem len5:(Str.ofString "abcde").length=5:=by decide +kernel
theorem ItemWP.abcde{i:Int} {Q:pV} (h0:0≤i) (h1:i<5) (h:Q (.str ⟨#[97+i.toNat]⟩) σ):ItemWP C A (.str (Str.ofString "abcde")) (.int i) σ Q X:=by
 refine ItemWP.str (by exact Y7Z h0) (by exact Y80 h1) ?_ h
 rw[len5,seqIndex_of h0 (by exact Y81 h1)]
 exact Z6d _ (by exact Y82 h1)
noncomputable def all09 (t:Int) (w n:Str):List Deed:=[.now w,.soon w,.wait t w,.soon w,.wait t w,.cancel w,.join n,.leave n,.hush]
theorem Z54{nm:Nat->Str} {c i:Nat} {t:Int} {w:Str} (N:NmOk nm c) (hi:i<c) (w1:isW w=true) (w2:PyData.strOk w=true) (h0:0≤t) (h1:t≤1000000000):∀d∈all09 t w (nm i),DG nm c d:=by
 unfold all09
 simp only[List.forall_mem_cons]
 exact⟨.now w1 w2,.soon w1 w2,.wait h0 h1 w1 w2,.soon w1 w2,.wait h0 h1 w1 w2,.cancel w1 w2,.join N hi,.leave N hi,.hush,fun _ z=>by cases z⟩
theorem nmOk(c:Nat) (hc:c≤5):NmOk hN c:=⟨fun i hi=>Z6b i (by(first|lia|omega)),fun i hi=>Z6P i (by(first|lia|omega)),fun i hi j hj=>Z6c i (by(first|lia|omega)) j (by(first|lia|omega))⟩
theorem Z55(hK:C.K=KL C.w.params) {cell k b:Int} {c:Nat} {Q:pV} (hr:A.depth+1<recursionLimit) (hh:A.handled=none) (h1:1≤c) (hc:c≤5) (h:∀d σ',Grow σ σ'->DG (hN) c d->Q (Deed.v d) σ'):CallWP C A (.ref 350) [.int cell,.int k,.int b,.int (c:Int)] σ Q X:=by
 have hr0:A.depth<recursionLimit:=by exact Y37 hr
 have N:=nmOk c hc
 k_extra "mdef4"
 intro L A' a1 a2 a3
 have hh':A'.handled=none:=a1.trans hh
 have hr':A'.depth<recursionLimit:=by exact Y6J hr a2
 k_extra "M"
 refine Zd hK hr' hh' (by(first|lia|omega)) fun r1 σ1 g1 r10 r11=>?_
 k_extra "M"
 refine Z1H hK hr' hh' fun w σ2 g2 w1 w2 w3=>?_
 k_extra "M"
 refine Zd hK hr' hh' (by exact Y83 h1) fun r2 σ3 g3 r20 r21=>?_
 refine ItemWP.abcde r20 (by exact Y84 hc r21) ?_
 refine BinWP.add_str ?_ (by rw[Z5j,sizeLine_eq];show 1+1≤_;(first|lia|omega))
 obtain⟨i,rfl⟩:∃i:Nat,r2=i:=⟨r2.toNat,by exact Y85 r20⟩
 have hi:i<c:=by exact Y75 r21
 rw[Int.toNat_natCast,show(Str.ofString "h" ++ (⟨#[97+i]⟩:Str))=hN i from rfl]
 have hall:∀t:Int,0≤t->t≤1000000000->∀d∈all09 t w (hN i),DG hN c d:=fun t t0 t1=>Z54 N hi w1 w2 t0 t1
 generalize hN i=nm at hall ⊢
 have g4:=(g1.trans g2).trans g3
 clear g1 g2 g3 N
 k_extra "M"
 refine Zd hK hr' hh' (by(first|lia|omega)) fun tk σ4 g5 t0 t1=>?_
 repeat ((fail_if_success (with_reducible show Exs _ _ _ (Stmt.If _ _ _ _::_) _ _ _ _));k_extra "m")
 with_reducible refine Exs.cutJ (fun ρ' σ'=>∃t:Int,0≤t∧t≤1000000000∧Grow σ σ'∧ρ'.get "_law_ticks" = some (.int t)∧ρ'.get "_law_cell" = some (.int cell)∧ρ'.get "_law_k" = some (.int k)∧ρ'.get "_law_word" = some (.str w)∧ρ'.get "_law_name" = some (.str nm)) ?_ ?_
 ·intro J hN _
  k_extra "M"
  refine Zd hK hr' hh' (by(first|lia|omega)) fun r σ5 g6 q0 q1=>?_
  have g7:=(g4.trans g5).trans g6
  k_extra "M"
  by_cases c1:r=0
  ·refine Br.t (by simpa using c1) ?_
   have m0:0≤cell.fmod 1000000001:=Int.fmod_nonneg_of_pos _ (by(first|lia|omega))
   have m1:cell.fmod 1000000001<1000000001:=Int.fmod_lt_of_pos _ (by(first|lia|omega))
   k_extra "M"
   exact hN _ _ ⟨cell.fmod 1000000001,m0,by exact Y8O m1,g7,by k_extra "mget",by k_extra "mget",by k_extra "mget",by k_extra "mget",by k_extra "mget"⟩
  ·refine Br.f (by simpa using c1) ?_
   k_extra "M"
   exact hN _ _ ⟨tk,t0,by exact Y86 t1,g7,by k_extra "mget",by k_extra "mget",by k_extra "mget",by k_extra "mget",by k_extra "mget"⟩
 intro ρ2 σ5
 refine Z2I fun t b0 b1 g7 q1 q2 q3 q4 q5=>?_
 replace hall:=hall t b0 b1
 clear g4 g5
 k_extra "M"
 intro x hx
 k_extra "M"
 intro y hy
 k_extra "M"
 refine BinWP.cat (xs:=(all09 t w nm).take 5 |>.map Deed.v) (ys:=(all09 t w nm).drop 5 |>.map Deed.v) (.inl (Store.at_fresh hy Store.hit)) (.inl Store.hit) (show 9≤sizeLine by decide) ?_
 intro z hz
 have g8:Grow σ (((σ5.upd x (.list ((all09 t w nm).take 5 |>.map Deed.v))).upd y (.list ((all09 t w nm).drop 5 |>.map Deed.v))).upd z (.list ((all09 t w nm).map Deed.v))):=((g7.fresh hx).fresh hy).fresh hz
 have f8:(((σ5.upd x (.list ((all09 t w nm).take 5 |>.map Deed.v))).upd y (.list ((all09 t w nm).drop 5 |>.map Deed.v))).upd z (.list ((all09 t w nm).map Deed.v))) z=some (.list ((all09 t w nm).map Deed.v)):=Store.hit
 show Exs _ _ _ _ _ (((σ5.upd x (.list ((all09 t w nm).take 5 |>.map Deed.v))).upd y (.list ((all09 t w nm).drop 5 |>.map Deed.v))).upd z (.list ((all09 t w nm).map Deed.v))) _ _
 have l9:(all09 t w nm).length=9:=rfl
 generalize all09 t w nm=ds at hall g8 f8 l9 ⊢
 generalize Store.upd _ z _=σ6 at g8 f8 ⊢
 k_extra "M"
 refine Zd hK hr' hh' (by(first|lia|omega)) fun r3 σ7 g9 r30 r31=>?_
 have hx3:r3.toNat<ds.length:=by exact Y87 l9 r31
 refine ItemWP.list (y:=Deed.v ds[r3.toNat]) (.inl (g9 _ _ f8)) r30 (by exact Y88 r31) (by rw[List.getElem?_map,List.getElem?_eq_getElem hx3];rfl) ?_
 k_extra "M"
 exact h _ _ (g8.trans g9) (hall _ (List.getElem_mem hx3))
theorem er0(n:Nat):Zs 0 (n:Int)=(List.range' 0 n).map fun(i:Nat)=>V.int (i:Int):=by
 unfold Zs
 rw[List.range_eq_range']
 simp
theorem Z20{α:Type} {c i:Nat} {is:List Nat} {xs:List α} (e:i::is=List.range' xs.length (c-xs.length)):xs.length<c∧i=xs.length∧is=List.range' (xs.length+1) (c-(xs.length+1)):=by
 have hlt:xs.length<c:=by
  cases z:c-xs.length with
  | zero=>rw[z]at e;cases e
  | succ m=>exact Y5Q z
 rw[show c-xs.length=(c-(xs.length+1))+1 by exact Y8g hlt,List.range'_succ]at e
 obtain⟨e1,e2⟩:=List.cons.inj e
 exact⟨hlt,e1,e2⟩
theorem Z6e(hK:C.K=KL C.w.params) {l0:Addr} {cs:List Int} {b:Int} {Q:pV} (hr:A.depth+4<recursionLimit) (hh:A.handled=none) (hl0:Z2r C l0 (cs.map V.int)) (hcs:cs.length≤1000)
  (h:∀c hs fl σ',c≤5->hs.length=c->AtG (hN) σ' fl c hs->σ' fl=some (.list (hs.map fun p=>p.1.tv p.2))->Grow σ σ'->Q (.ref fl) σ'):CallWP C A (.ref 355) [.ref l0,.int b] σ Q X:=by
 have hr0:A.depth<recursionLimit:=by exact Y76 hr
 k_extra "mdef2"
 intro L A' a1 a2 a3
 have hh':A'.handled=none:=a1.trans hh
 have hr1:A'.depth<recursionLimit:=by exact Y7b hr a2
 have b0:0≤b.fmod 5:=Int.fmod_nonneg_of_pos _ (by(first|lia|omega))
 have b1:b.fmod 5<5:=Int.fmod_lt_of_pos _ (by(first|lia|omega))
 k_extra "M"
 obtain⟨c,hcc⟩:∃c:Nat,1+b.fmod 5=c:=⟨(1+b.fmod 5).toNat,by(first|lia|omega)⟩
 have c1:1≤c:=by(first|lia|omega)
 have c5:c≤5:=by(first|lia|omega)
 rw[hcc]
 k_extra "M"
 intro fl hfl
 have g0:Grow σ (σ.upd fl (.list [])):=Grow.rfl'.fresh hfl
 have f0:(σ.upd fl (.list [])) fl=some (.list []):=Store.hit
 generalize Store.upd σ fl _=σ0 at g0 f0 ⊢
 k_extra "M"
 refine⟨_,_,ItV.rng hh' (by(first|lia|omega)) (by(first|lia|omega)) (by exact Y8e) (by(first|lia|omega)),?_⟩
 rw[er0]
 refine ForL.invJ (fun(i:Nat)=>V.int (i:Int)) (fun is ρ σ1=>∃hs:List (Hn×V),is=List.range' hs.length (c - hs.length)∧hs.length≤c∧Grow σ σ1∧AtG (hN) σ1 fl c hs∧σ1 fl=some (.list (hs.map fun p=>p.1.tv p.2))∧ρ.get "_law_script" = some (.ref l0)∧ρ.get "_law_count" = some (.int (c:Int))∧ρ.get "_law_found" = some (.ref fl)∧ρ.get "_law_base" = some (.int b)) ?_ ?_ _ _ _ ⟨[],by simp,by simp,g0,(fun i h=>absurd h (Nat.not_lt_zero i)),f0,by k_extra "mget",by k_extra "mget",by k_extra "mget",by k_extra "mget"⟩
 ·intro J i is hNx _ _ ρ σ1
  refine Z2J fun hs e hlen g1 At f1 r1 r2 r3 r4=>?_
  obtain⟨hlt,rfl,rfl⟩:=Z20 e
  clear e
  k_extra "M"
  have e3:(1:Int)+(hs.length:Int)=((1+hs.length:Nat):Int):=by exact Y8h
  rw[e3]
  refine Z4C hK hr1 hh' (.inr hl0) hcs (by(first|lia|omega)) ?_
  generalize cs.getD (1+hs.length) 0=cell0
  k_extra "M"
  generalize cell0+11*(hs.length:Int)=cell
  refine Zd hK hr1 hh' (by(first|lia|omega)) fun m σ2 g2 m0 m5=>?_
  repeat ((fail_if_success (with_reducible show Exs _ _ _ (Stmt.If _ _ _ _::_) _ _ _ _));k_extra "m")
  with_reducible refine Exs.cutJ (fun ρ' σ'=>∃m:Nat,m≤30∧Grow σ1 σ'∧ρ'.get "_law_size" = some (.int (m:Int))∧ρ'.get "_law_cell" = some (.int cell)∧ρ'.get "_law_k" = some (.int (hs.length:Int))∧ρ'.get "_law_script" = some (.ref l0)∧ρ'.get "_law_count" = some (.int (c:Int))∧ρ'.get "_law_found" = some (.ref fl)∧ρ'.get "_law_base" = some (.int b)) ?_ ?_
  ·intro J2 hN2 _
   k_extra "M"
   refine Zd hK hr1 hh' (by(first|lia|omega)) fun r σ3 g3 p0 p1=>?_
   k_extra "M"
   by_cases c2:r=0
   ·refine Br.t (by simpa using c2) ?_
    k_extra "M"
    exact hN2 _ _ ⟨30,by(first|lia|omega),g2.trans g3,by rw[show((30:Nat):Int)=30 from rfl];k_extra "mget",by k_extra "mget",by k_extra "mget",by k_extra "mget",by k_extra "mget",by k_extra "mget",by k_extra "mget"⟩
   ·refine Br.f (by simpa using c2) ?_
    k_extra "M"
    exact hN2 _ _ ⟨m.toNat,by exact Y8P m5,g2.trans g3,by rw[Int.toNat_of_nonneg m0];k_extra "mget",by k_extra "mget",by k_extra "mget",by k_extra "mget",by k_extra "mget",by k_extra "mget",by k_extra "mget"⟩
  clear r1 r2 r3 r4 g2 m0 m5 m
  intro ρ2 σ2
  refine Z2J fun m m30 g2 r1 r5 r6 r2 r3 r4 r7=>?_
  repeat ((fail_if_success (with_reducible show Exs _ _ _ (Stmt.If _ _ _ _::_) _ _ _ _));k_extra "m")
  with_reducible refine Exs.cutJ (fun ρ' σ'=>∃w:Str,(w=Str.ofString "" ∨isW w=true)∧PyData.strOk w=true∧Grow σ1 σ'∧ρ'.get "_law_hears" = some (.str w)∧ρ'.get "_law_size" = some (.int (m:Int))∧ρ'.get "_law_cell" = some (.int cell)∧ρ'.get "_law_k" = some (.int (hs.length:Int))∧ρ'.get "_law_script" = some (.ref l0)∧ρ'.get "_law_count" = some (.int (c:Int))∧ρ'.get "_law_found" = some (.ref fl)∧ρ'.get "_law_base" = some (.int b)) ?_ ?_
  ·intro J2 hN2 _
   k_extra "M"
   refine Zd hK hr1 hh' (by(first|lia|omega)) fun r σ3 g3 p0 p1=>?_
   k_extra "M"
   by_cases c2:0<r
   ·refine Br.t (by simpa using c2) ?_
    k_extra "M"
    refine Zd hK hr1 hh' (by(first|lia|omega)) fun r' σ4 g4 _ _=>?_
    k_extra "M"
    refine Z1H hK hr1 hh' fun w σ5 g5 w1 w2 w3=>?_
    k_extra "M"
    exact hN2 _ _ ⟨w,.inr w1,w2,((g2.trans g3).trans g4).trans g5,by k_extra "mget",by k_extra "mget",by k_extra "mget",by k_extra "mget",by k_extra "mget",by k_extra "mget",by k_extra "mget",by k_extra "mget"⟩
   ·refine Br.f (by simpa using c2) ?_
    k_extra "M"
    exact hN2 _ _ ⟨Str.ofString "",.inl rfl,Z0 _,g2.trans g3,by k_extra "mget",by k_extra "mget",by k_extra "mget",by k_extra "mget",by k_extra "mget",by k_extra "mget",by k_extra "mget",by k_extra "mget"⟩
  clear r1 r2 r3 r4 r5 r6 r7 g2
  intro ρ3 σ3
  refine Z5r fun w w1 w2 g2 r0 r1 r5 r6 r2 r3 r4 r7=>?_
  k_extra "M"
  refine⟨_,_,ItV.rng hh' (by(first|lia|omega)) (by(first|lia|omega)) (by exact Y8e) (by exact Y8Q m30),fun L'=>?_⟩
  rw[er0]
  refine CmpL.invJ (fun(i:Nat)=>V.int (i:Int)) (fun ys out σ4=>∃ds:List Deed,ys=List.range' ds.length (m - ds.length)∧ds.length≤m∧Grow σ1 σ4∧(∀d∈ds,DG (hN) c d)∧out=ds.map Deed.v) ?_ ?_ _ _ _ ⟨[],by simp,by simp,g2,(fun _ z=>by cases z),rfl⟩
  ·intro J2 i ys out hJ σ4
   refine Z4b fun ds e2 hl2 g3 hd eo=>?_
   subst eo
   obtain⟨hlt2,rfl,rfl⟩:=Z20 e2
   clear e2
   k_extra "M"
   refine Z55 hK (by exact Y8R hr a2) hh' c1 c5 fun d σ5 g4 hd4=>?_
   refine hJ _ _ (by rw[List.length_map,sizeLine_eq];exact Y8S m30 hlt2) trivial ⟨ds++[d],by simp,by simp;exact Y8j hlt2,g3.trans g4,fun d' hd'=>?_,by simp⟩
   rcases List.mem_append.mp hd' with z|z
   ·exact hd d' z
   ·rw[List.mem_singleton.mp z];exact hd4
  intro out σ4
  refine Z4b fun ds e2 hl2 g3 hd eo=>?_
  subst eo
  clear e2 g2
  intro dl hdl
  have g4:=g3.fresh (o:=.list (ds.map Deed.v)) hdl
  have fd:(σ4.upd dl (.list (ds.map Deed.v))) dl=some (.list (ds.map Deed.v)):=Store.hit
  have nd:dl≠fl:=fun q=>by rw[q,g3 _ _ f1]at hdl;cases hdl
  generalize Store.upd σ4 dl _=σ5 at g4 fd ⊢
  have f5:=g4 _ _ f1
  k_extra "M"
  refine ItemWP.abcde (by(first|lia|omega)) (by(first|lia|omega)) ?_
  refine BinWP.add_str ?_ (by rw[Z5j,sizeLine_eq];show 1+1≤_;(first|lia|omega))
  rw[Int.toNat_natCast,show(Str.ofString "h" ++ (⟨#[97+hs.length]⟩:Str))=hN hs.length from rfl]
  have H:∀rk o,HG (hN) c hs.length ⟨hN hs.length,rk,w,o,ds⟩:=fun rk o=>⟨rfl,w1,w2,by show ds.length≤30;exact Y8T m30 hl2,hd⟩
  generalize hN hs.length=nm at H ⊢
  k_extra "M"
  refine Zd hK hr1 hh' (by(first|lia|omega)) fun rk σ8 g8 k0 k4=>?_
  k_extra "M"
  refine Zd hK hr1 hh' (by(first|lia|omega)) fun ro σ9 g9 o0 o4=>?_
  have gA:=(g4.trans g8).trans g9
  have f9:=gA _ _ f1
  k_extra "M"
  refine hNx _ _ trivial ⟨hs++[(⟨nm,rk - 1,w,ro==0,ds⟩,.ref dl)],by simp,by simp;exact Y8j hlt,(g1.trans gA).upd hfl,At.snoc (fun x o hx e=>Store.miss hx (gA _ _ e)) (H _ _) nd (Store.miss nd (g9 _ _ (g8 _ _ fd))),?_,by k_extra "mget",by k_extra "mget",by k_extra "mget",by k_extra "mget"⟩
  rw[Store.hit,List.map_append];rfl
 intro ρ σ1
 refine Z2J fun hs e hlen g1 At f1 r1 r2 r3 r4=>?_
 have hlc:hs.length=c:=by
  have:=congrArg List.length e
  simp at this;exact Y8l hlen this
 k_extra "M"
 exact h c hs fl σ1 c5 hlc At f1 g1
structure A4 where
 o:Addr
 so:Addr
 la:Addr
 ar:Addr
noncomputable def dI (d:List (Int×Int)):List (Int×V):=d.map fun p=>(p.1,V.int p.2)
theorem Z1k(d:List (Int×Int)):(dI d).length=d.length:=List.length_map ..
theorem Z1a{k v:Int}:∀{d:List (Int×Int)},(keys d).Nodup->(k,v)∈d->iget (dI d) k=some (.int v)
 | x::d,nd,h=>by
  have nd:(x.1::keys d).Nodup:=nd
  rw[List.nodup_cons]at nd
  have hd:iget (dI (x::d)) k=if x.1=k then some (V.int x.2) else iget (dI d) k:=by
   unfold iget dI
   rw[List.map_cons,List.find?_cons]
   by_cases e:x.1=k<;>simp[e]
  rw[hd]
  rcases List.mem_cons.mp h with e|h
  ·rw[←e,if_pos rfl]
  ·rw[if_neg fun e=>nd.1 (by rw[e];exact List.mem_map.mpr ⟨_,h,rfl⟩)]
   exact Z1a nd.2 h
theorem Z56{k:Int} {d:List (Int×Int)} (h:k∉keys d):iget (dI d) k=none:=by
 unfold iget dI
 rw[List.find?_map,List.find?_eq_none.mpr fun p hp=>by simpa using fun e=>h (List.mem_map.mpr ⟨p,hp,e⟩)];rfl
theorem Z3w{k p:Int}:∀{d:List (Int×Int)},k∉keys d->iput (dI d) k (.int p)=dI (d++[(k,p)])
 | [],_=>rfl
 | x::d,h=>by
  have h:k∉x.1::keys d:=h
  rw[List.mem_cons,not_or]at h
  show iput ((x.1,V.int x.2)::dI d) k (.int p)=_
  unfold iput
  rw[if_neg h.1,Z3w h.2];rfl
theorem Z3x(d:List (Int×Int)) (k:Int):idel (dI d) k=dI (del9 d k):=by
 unfold idel dI del9
 rw[List.filter_map];rfl
@[reducible] noncomputable def dO (x:O9) (q:A4):O:=.sd [("time",.int x.time),("soon",.ref q.so),("late",.ref q.la),("born",optV x.born),("around",.ref q.ar)]
structure W9(σ0 σ:Store) (x:O9) (q:A4):Prop where
 g:Grow σ0 σ
 h1:σ0 q.o=none
 h2:σ0 q.so=none
 h3:σ0 q.la=none
 h4:σ0 q.ar=none
 led:Led σ [(q.o,dO x q),(q.so,.list (x.soon.map V.int)),(q.la,.id (dI x.late)),(q.ar,.list (x.around.map V.int))]
section
variable {σ0 σ:Store} {x:O9} {q:A4}
theorem W9.st(S:W9 σ0 σ x q) (t:Int):W9 σ0 (σ.upd q.o (dO { x with time:=t } q)) { x with time:=t } q:=⟨S.g.upd S.h1,S.h1,S.h2,S.h3,S.h4,S.led.set 0 _ rfl⟩
theorem W9.sb(S:W9 σ0 σ x q) (b:Option Int):W9 σ0 (σ.upd q.o (dO { x with born:=b } q)) { x with born:=b } q:=⟨S.g.upd S.h1,S.h1,S.h2,S.h3,S.h4,S.led.set 0 _ rfl⟩
theorem W9.ss(S:W9 σ0 σ x q) (l:List Int):W9 σ0 (σ.upd q.so (.list (l.map V.int))) { x with soon:=l } q:=⟨S.g.upd S.h2,S.h1,S.h2,S.h3,S.h4,S.led.set 1 _ rfl⟩
theorem W9.sl(S:W9 σ0 σ x q) (d:List (Int×Int)):W9 σ0 (σ.upd q.la (.id (dI d))) { x with late:=d } q:=⟨S.g.upd S.h3,S.h1,S.h2,S.h3,S.h4,S.led.set 2 _ rfl⟩
theorem W9.sa(S:W9 σ0 σ x q) (l:List Int):W9 σ0 (σ.upd q.ar (.list (l.map V.int))) { x with around:=l } q:=⟨S.g.upd S.h4,S.h1,S.h2,S.h3,S.h4,S.led.set 3 _ rfl⟩
theorem W9.grow{σ':Store} (S:W9 σ0 σ x q) (h:Grow σ σ'):W9 σ0 σ' x q:=⟨S.g.trans h,S.h1,S.h2,S.h3,S.h4,S.led.grow h⟩
theorem W9.fo(S:W9 σ0 σ x q):σ q.o=some (dO x q):=S.led.get 0 rfl
theorem W9.fs(S:W9 σ0 σ x q):σ q.so=some (.list (x.soon.map V.int)):=S.led.get 1 rfl
theorem W9.fl(S:W9 σ0 σ x q):σ q.la=some (.id (dI x.late)):=S.led.get 2 rfl
theorem W9.fa(S:W9 σ0 σ x q):σ q.ar=some (.list (x.around.map V.int)):=S.led.get 3 rfl
theorem W9.ns{a:Addr} {l:List Int} (S:W9 σ0 σ x q) (ha:σ0 a=none) (fa:σ a=some (.list (l.map V.int))) (n1:a≠q.o) (n2:a≠q.la) (n3:a≠q.ar):W9 σ0 (σ.upd q.o (dO { x with soon:=l } { q with so:=a })) { x with soon:=l } { q with so:=a }:=by
 have T:Led σ [(q.o,dO x q),(q.la,.id (dI x.late)),(q.ar,.list (x.around.map V.int))]:=S.led.sub (.cons_cons _ (.cons _ (List.Sublist.refl _)))
 have U:Led σ [(a,.list (l.map V.int)),(q.o,dO x q),(q.la,.id (dI x.late)),(q.ar,.list (x.around.map V.int))]:=
  ⟨by simpa using⟨⟨n1,n2,n3⟩,by simpa using T.nd⟩,fun p hp=>by
   rcases List.mem_cons.mp hp with rfl|hp
   ·exact fa
   ·exact T.at_ p hp⟩
 exact⟨S.g.upd S.h1,S.h1,ha,S.h3,S.h4,(U.set 1 (dO { x with soon:=l } { q with so:=a }) rfl).perm (.swap _ _ _)⟩
end
theorem Store.back{σ:Store} {a:Addr} {o o':O} (h:σ a=some o):(σ.upd a o').upd a o=σ:=by
 funext b
 by_cases e:b=a
 ·subst e;rw[Store.upd_self];exact h.symm
 ·rw[Store.upd_ne _ _ e,Store.upd_ne _ _ e]
noncomputable def bst (d:List (Int×Int)):V:=match mn d with
 | none=>.none
 | some p=>.tup [.int p.2,.int p.1]
noncomputable def Z2W (soon:List Int) (late:List (Int×Int)):V:=match soon with
 | n::_=>.tup [.int n,.none]
 | []=>bst late
theorem Z3y(hK:C.K=KL C.w.params) (hS:Zh C) {so la:Addr} {soon:List Int} {late:List (Int×Int)} {Q:pV} (hr:A.depth<recursionLimit) (hh:A.handled=none) (hu:A.units<8000)
  (f1:σ so=some (.list (soon.map V.int))) (f2:σ la=some (.id (dI late))) (nd:(keys late).Nodup) (z1:soon.length≤9000) (h:Q (Z2W soon late) σ):CallWP C A (.ref 362) [.ref so,.ref la] σ Q X:=by
 k_extra "mdef2"
 intro L A' a1 a2 a3
 have hh':A'.handled=none:=a1.trans hh
 have hu':A'.units<9000:=by(first|lia|omega)
 cases soon with
 | cons n ns=>
  k_extra "M"
  refine ItemWP.list (y:=V.int n) (.inl f1) (by(first|lia|omega)) (by simp) rfl ?_
  k_extra "M"
  exact h
 | nil=>
  repeat ((fail_if_success (with_reducible show Src _ _ _ _ _ _ _ _ _));k_extra "m")
  refine Src.dict hh' hS ?_
  k_extra "M"
  refine⟨la,_,rfl,f2,fun ep=>?_⟩
  rw[show(dI late).map (fun p=>V.int p.1)=late.map (fun p=>V.int p.1) by unfold dI;rw[List.map_map];rfl]
  refine ForL.invJ (fun p:Int×Int=>V.int p.1) (fun rs ρ σ1=>∃done:List (Int×Int),done++rs=late∧σ1=σ.upd la (.ie (dI late) ep)∧ρ.get "_law_best" = some (bst done)∧ρ.get "_law_late" = some (.ref la)) ?_ ?_ _ _ _ ⟨[],rfl,rfl,by rw[show bst []=V.none from rfl];k_extra "mget",by k_extra "mget"⟩
  ·intro J e rs hN _ _ ρ σ1
   refine Z4a fun done e1 e2 r1 r2=>?_
   have hm:e∈late:=by rw[←e1];simp
   have hg:=Z1a (k:=e.1) (v:=e.2) nd hm
   have f3:σ1 la=some (.ie (dI late) ep):=by rw[e2];exact Store.hit
   have fin:∀ρ2 v,bst (done++[e])=v->ρ2.get "_law_best" = some v->ρ2.get "_law_late" = some (.ref la)->J .next ρ2 σ1:=fun ρ2 v q q1 q2=>hN ρ2 σ1 f3 ⟨done++[e],by rw[←e1];simp,e2,by rw[q];exact q1,q2⟩
   have eb:=Z5G done e
   unfold bst at r1
   cases hb:mn done with
   | none=>
    rw[hb]at r1 eb
    dsimp only at r1 eb
    k_extra "M"
    refine ItemWP.ie f3 hg ?_
    k_extra "M"
    exact fin _ (.tup [.int e.1,.int e.2]) (by unfold bst;rw[eb]<;>rfl) (by k_extra "mget") (by k_extra "mget")
   | some b=>
    rw[hb]at r1 eb
    dsimp only at r1 eb
    k_extra "M"
    refine ItemWP.ie f3 hg ?_
    k_extra "M"
    refine CmpWP.ltPair (by(first|lia|omega)) ?_
    k_extra "M"
    rw[show(b.1,b.2)=b from rfl]at *
    cases c:lexlt (swp e) b with
    | true=>
     rw[if_pos c]at eb
     refine Br.t c ?_
     k_extra "M"
     refine ItemWP.ie f3 hg ?_
     k_extra "M"
     exact fin _ (.tup [.int e.1,.int e.2]) (by unfold bst;rw[eb]<;>rfl) (by k_extra "mget") (by k_extra "mget")
    | false=>
     rw[if_neg (by rw[c];simp)]at eb
     refine Br.f c ?_
     k_extra "M"
     exact fin _ (.tup [.int b.2,.int b.1]) (by unfold bst;rw[eb]<;>rfl) (by k_extra "mget") (by k_extra "mget")
  intro ρ1 σ1
  refine Z4a fun done e1 e2 r1 r2=>?_
  rw[List.append_nil]at e1
  subst e1 e2
  k_extra "m"
  with_reducible refine Exs.shut Store.hit ?_
  rw[Store.back f2]
  k_extra "M"
  exact h
theorem Z6f{d:List (Int×Int)} {p:Int×Int} (h:mn d=some p):(p.2,p.1)∈d:=by
 obtain⟨q,hq,e⟩:=List.mem_map.mp (Z1j h).1
 rw[←e];exact hq
theorem SetWP.b9{σ0:Store} {x:O9} {q:A4} {b:Option Int} {Q:Store->Prop} (S:W9 σ0 σ x q) (h:∀σ',W9 σ0 σ' { x with born:=b } q->Q σ'):SetWP C A (.ref q.o) (.str (Str.ofString "born")) (optV b) σ Q X:=by
 refine SetWP.sd S.fo (by simp[sizeLine_eq]) ?_
 have e:sput [((Str.ofString "time"),V.int x.time),(Str.ofString "soon",V.ref q.so),(Str.ofString "late",V.ref q.la),(Str.ofString "born",optV x.born),(Str.ofString "around",V.ref q.ar)] (Str.ofString "born") (optV b)=[((Str.ofString "time"),V.int x.time),(Str.ofString "soon",V.ref q.so),(Str.ofString "late",V.ref q.la),(Str.ofString "born",optV b),(Str.ofString "around",V.ref q.ar)]:=by k_extra "msput"
 rw[e];exact h _ (S.sb b)
theorem SetWP.t9{σ0:Store} {x:O9} {q:A4} {t:Int} {Q:Store->Prop} (S:W9 σ0 σ x q) (h:∀σ',W9 σ0 σ' { x with time:=t } q->Q σ'):SetWP C A (.ref q.o) (.str (Str.ofString "time")) (.int t) σ Q X:=by
 refine SetWP.sd S.fo (by simp[sizeLine_eq]) ?_
 have e:sput [((Str.ofString "time"),V.int x.time),(Str.ofString "soon",V.ref q.so),(Str.ofString "late",V.ref q.la),(Str.ofString "born",optV x.born),(Str.ofString "around",V.ref q.ar)] (Str.ofString "time") (.int t)=[((Str.ofString "time"),V.int t),(Str.ofString "soon",V.ref q.so),(Str.ofString "late",V.ref q.la),(Str.ofString "born",optV x.born),(Str.ofString "around",V.ref q.ar)]:=by k_extra "msput"
 rw[e];exact h _ (S.st t)
theorem Z6Q(hK:C.K=KL C.w.params) (hS:Zh C) {σ0:Store} {x y:O9} {q:A4} {n t:Int} {Q:pV} (hr:A.depth+1<recursionLimit) (hh:A.handled=none) (hu:A.units<7000)
  (S:W9 σ0 σ x q) (nd:(keys x.late).Nodup) (z1:x.soon.length≤9000) (z2:x.late.length≤9000) (z3:x.around.length≤9000) (b:Bg9 x n t y) (h:∀σ',W9 σ0 σ' y q->Q (.bool true) σ') :
  CallWP C A (.ref 369) [.ref q.o,.tup [.str (Str.ofString "begin"),.int n,.int t]] σ Q X:=by
 have hr0:A.depth<recursionLimit:=by exact Y37 hr
 have fo:=S.fo
 have fs:=S.fs
 have fl:=S.fl
 have fa:=S.fa
 k_extra "mdef2"
 intro L A' a1 a2 a3
 have hh':A'.handled=none:=a1.trans hh
 have hr1:A'.depth<recursionLimit:=by exact Y6J hr a2
 have hu':A'.units<8000:=by exact Y6O hu a3
 cases b with
 | born hb e=>
  simp only[dO,hb,optV]at fo
  k_extra "M"
  refine SetWP.b9 (b:=none) S fun σ1 S1=>?_
  k_extra "M"
  rw[show(t==x.time)=true by rw[e];simp]
  exact h _ S1
 | soon ns hb ha hs e=>
  simp only[dO,hb,optV]at fo
  rw[ha]at fa
  rw[hs]at fs
  k_extra "M"
  refine Z3y hK hS hr1 hh' hu' fs fl nd (by rw[←hs];exact z1) ?_
  rw[show Z2W (n::ns) x.late=.tup [.int n,.none] from rfl]
  k_extra "M"
  refine CallWP.pop_at (j:=0) fs (by decide) (by rw[seqIndex_of (by(first|lia|omega)) (by simp<;>(first|lia|omega))];rfl) rfl (by rw[List.length_map,sizeLine_eq,←hs];(first|lia|omega)) ?_
  rw[show((n::ns).map V.int).eraseIdx 0=ns.map V.int from rfl]
  have S1:=S.ss ns
  generalize Store.upd σ q.so _=σ1 at S1 ⊢
  have fo:=S1.fo
  simp only[dO,hb,optV]at fo
  k_extra "M"
  rw[show(t==x.time)=true by rw[e];simp]
  exact h _ S1
 | late p hb ha hs hm en e=>
  simp only[dO,hb,optV]at fo
  rw[ha]at fa
  rw[hs]at fs
  k_extra "M"
  refine Z3y hK hS hr1 hh' hu' fs fl nd (by simp) ?_
  rw[show Z2W [] x.late=.tup [.int p.2,.int p.1] by show bst _=_;unfold bst;rw[hm]<;>rfl]
  k_extra "M"
  refine Br.f (by rw[en];simp) ?_
  k_extra "M"
  refine CallWP.idpop (y:=.int p.1) fl (by rw[Z1k,sizeLine_eq];(first|lia|omega)) (Z1a nd (by rw[en];exact Z6f hm)) ?_
  rw[Z3x]
  have S1:=S.sl (del9 x.late n)
  generalize Store.upd σ q.la _=σ1 at S1 ⊢
  have fo:=S1.fo
  simp only[dO,hb,optV]at fo
  k_extra "M"
  refine SetWP.t9 S1 fun σ2 S2=>?_
  have fo:=S2.fo
  simp only[dO,hb,optV]at fo
  k_extra "M"
  rw[show(t==max x.time p.1)=true by rw[e];simp]
  rw[←e]at S2
  exact h _ S2
theorem CmpWP.notInTS{x:Str} {ns:List Str} {Q:pV} (hu:A.units<9000) (hx:PyData.strOk x=true) (hn:∀n∈ns,PyData.strOk n=true) (h:Q (.bool (!ns.contains x)) σ):CmpWP C A .NotIn (.str x) (.tup (ns.map V.str)) σ Q X:=by
 refine CmpWP.notInT (d:=.str x) (ds:=ns.map PyData.str) (.str _) (DRs.map fun _ _=>.str _) (by simpa [PyData.canLay0] using hx) (Z5 fun y hy=>by simpa [PyData.canLay0] using hn y hy) (by
  simp only[PyData.depth,cLine];exact Y6Q hu) ?_
 rw[Z17];exact h
theorem CmpWP.neOpt{k:Option Int} {Q:pV} (hu:A.units<9000) (h:Q (.bool false) σ):CmpWP C A .NotEq (optV k) (optV k) σ Q X:=by
 cases k with
 | none=>exact CmpWP.neSame (d:=.none) .none .none rfl (by simp only[PyData.depth,cLine];(first|lia|omega)) h
 | some n=>exact CmpWP.neSame (d:=.int n) (.int _) (.int _) rfl (by simp only[PyData.depth,cLine];(first|lia|omega)) h
theorem Z5k(hK:C.K=KL C.w.params) (hS:Zh C) {σ0:Store} {x:O9} {q:A4} {n:Int} {e:Evt} {mk:Option Int} {Q:pV} (hr:A.depth<recursionLimit) (hh:A.handled=none) (hu:A.units<7000)
  (S:W9 σ0 σ x q) (z1:x.soon.length≤9000) (z2:x.late.length≤9000) (M:Mk9 x n e mk) (h:∀σ',W9 σ0 σ' (mk9 x n e) q->Q (.bool true) σ') :
  CallWP C A (.ref 376) [.ref q.o,.int n,Evt.v e,optV mk] σ Q X:=by
 have fo:=S.fo
 have fs:=S.fs
 have fl:=S.fl
 obtain⟨w,k0,road,due⟩:=e
 obtain⟨m1,m2,m3,m4,m5,m6⟩:=M
 dsimp only at m1 m2 m3 m4 m5
 subst m1
 k_extra "mdef4"
 intro L A' a1 a2 a3
 have hh':A'.handled=none:=a1.trans hh
 have hu':A'.units<8000:=by exact Y6O hu a3
 simp only[Evt.v]
 k_extra "M"
 refine CmpWP.neOpt (by(first|lia|omega)) ?_
 have ns:∀r,r=Str.ofString "now" ∨r=Str.ofString "soon" ∨r=Str.ofString "wait" ->(!([Str.ofString "now",Str.ofString "soon",Str.ofString "wait"]:List Str).contains r)=false:=by
  rintro r (rfl|rfl|rfl)<;>decide +kernel
 have sok:PyData.strOk road=true:=by rcases m2 with rfl|rfl|rfl<;>exact Z0 _
 k_extra "M"
 refine CmpWP.notInTS (ns:=[Str.ofString "now",Str.ofString "soon",Str.ofString "wait"]) (by(first|lia|omega)) sok (by simp[Z0]) ?_
 rw[ns road m2]
 k_extra "M"
 have n1:Str.ofString "soon" ≠Str.ofString "now":=by decide +kernel
 have n2:Str.ofString "wait" ≠Str.ofString "now":=by decide +kernel
 have n3:Str.ofString "wait" ≠Str.ofString "soon":=by decide +kernel
 unfold mk9 at h
 rcases m2 with rfl|rfl|rfl
 ·obtain rfl:=m3 (by decide +kernel)
  rw[if_pos rfl]at h
  cases k0 with
  | none=>exact absurd (m5 rfl).1 (by decide +kernel)
  | some m=>
   simp only[optV]
   k_extra "M"
   refine SetWP.b9 (b:=some n) S fun σ1 S1=>?_
   k_extra "M"
   exact h _ S1
 ·obtain rfl:=m3 (by decide +kernel)
  rw[if_neg n1,if_pos rfl]at h
  cases k0 with
  | none=>exact absurd (m5 rfl).1 (by decide +kernel)
  | some m=>
   simp only[optV]
   k_extra "M"
   have S1:=S.ss (x.soon++[n])
   rw[List.map_append]at S1
   exact h _ S1
 ·rw[if_neg n2,if_neg n3]at h
  k_extra "M"
  refine Br.f (by simp;(first|lia|omega)) ?_
  k_extra "M"
  refine SetWP.id fl (by rw[Z1k,sizeLine_eq];(first|lia|omega)) ?_
  rw[Z3w m6]
  have S1:=S.sl (x.late++[(n,due)])
  generalize Store.upd σ q.la _=σ1 at S1 ⊢
  have fo:=S1.fo
  cases k0 with
  | none=>
   obtain⟨_,rfl⟩:=m5 rfl
   simp only[optV]
   k_extra "M"
   rw[show(x.time==x.time)=true by simp]
   exact h _ S1
  | some m=>
   simp only[optV]
   k_extra "M"
   exact h _ S1
theorem Z5l(d:List (Int×Int)):(dI d).map (fun p=>V.int p.1)=(keys d).map V.int:=by unfold dI keys;rw[List.map_map,List.map_map];rfl
theorem filV(l:List Int) (f:Int->Bool):((l.map V.int).filter (fun y=>match y with|.int x=>f x|_=>false)).map id=(l.filter f).map V.int:=by
 rw[List.map_id,List.filter_map];rfl
theorem SetWP.s9{σ0:Store} {x:O9} {q:A4} {a:Addr} {l:List Int} {Q:Store->Prop} (S:W9 σ0 σ x q) (ha:σ0 a=none) (fa:σ a=some (.list (l.map V.int))) (n1:a≠q.o) (n2:a≠q.la) (n3:a≠q.ar)
  (h:∀σ',W9 σ0 σ' { x with soon:=l } { q with so:=a }->(∀b o,b≠q.o->σ b=some o->σ' b=some o)->Q σ'):SetWP C A (.ref q.o) (.str (Str.ofString "soon")) (.ref a) σ Q X:=by
 refine SetWP.sd S.fo (by simp[sizeLine_eq]) ?_
 have e:sput [((Str.ofString "time"),V.int x.time),(Str.ofString "soon",V.ref q.so),(Str.ofString "late",V.ref q.la),(Str.ofString "born",optV x.born),(Str.ofString "around",V.ref q.ar)] (Str.ofString "soon") (.ref a)=[((Str.ofString "time"),V.int x.time),(Str.ofString "soon",V.ref a),(Str.ofString "late",V.ref q.la),(Str.ofString "born",optV x.born),(Str.ofString "around",V.ref q.ar)]:=by k_extra "msput"
 rw[e];exact h _ (S.ns ha fa n1 n2 n3) fun b o hb z=>Store.miss hb z
theorem Z57(d:List (Int×Int)) (ks:List Int) (k:Int):del9 (d.filter fun p=>!ks.contains p.1) k=d.filter fun p=>!(ks++[k]).contains p.1:=by
 unfold del9
 rw[List.filter_filter]
 refine List.filter_congr fun p _=>?_
 rw[Bool.eq_iff_iff]
 simp
 exact⟨fun z=>⟨z.2,z.1⟩,fun z=>⟨z.2,z.1⟩⟩
theorem Z5H{d:List (Int×Int)} {k:Int} (h:k∉keys d):del9 d k=d:=
 List.filter_eq_self.mpr fun p hp=>by simpa using fun e=>h (List.mem_map.mpr ⟨p,hp,e⟩)
theorem Z5I{d:List (Int×Int)} (h:(keys d).Nodup) (f:Int×Int->Bool):(keys (d.filter f)).Nodup:=(List.filter_sublist.map _).nodup h
theorem Z4H(evs:List Evt) (w:Str):∀l:List Int,((l.map V.int).filter fun _=>true).map (fun y=>match y with|.int k=>V.str (((evs[k.toNat]?).map (·.word)).getD w)|_=>.none)=(l.map fun k=>((evs[k.toNat]?).map (·.word)).getD w).map V.str
 | []=>rfl
 | _::l=>congrArg (List.cons _) (Z4H evs w l)
theorem repV(w:Str):∀ns:List Int,((ns.map V.int).filter fun _=>true).map (fun _=>V.str w)=(List.replicate ns.length w).map V.str
 | []=>rfl
 | k::ns=>congrArg (V.str w::·) (repV w ns)
theorem Z6R(hK:C.K=KL C.w.params) (hS:Zh C) {σ0:Store} {x:O9} {q:A4} {m:Int} {ns:List Int} {evs:List Evt} {ev:Addr} {w:Str} {Q:pV} (hr:A.depth<recursionLimit) (hh:A.handled=none) (hu:A.units<7000)
  (S:W9 σ0 σ x q) (fe:σ0 ev=some (.list (evs.map Evt.v))) (z1:x.soon.length≤9000) (z2:x.late.length≤9000) (z3:ns.length≤9000) (z4:evs.length≤9000) (M:Cn9 x ns evs w) (h:∀q' σ',q'.o=q.o->W9 σ0 σ' (cn9 x ns) q'->Q (.bool true) σ') :
  CallWP C A (.ref 381) [.ref q.o,.tup [.str (Str.ofString "cancel"),.int m,.tup (ns.map V.int)],.ref ev] σ Q X:=by
 have fo:=S.fo
 have fs:=S.fs
 have fl:=S.fl
 k_extra "mdef3"
 intro L A' a1 a2 a3
 have hh':A'.handled=none:=a1.trans hh
 have hu':A'.units<8000:=by exact Y6O hu a3
 k_extra "M"
 refine CallWP.listOfId fl hS hh' (by rw[Z1k,sizeLine_eq];(first|lia|omega)) fun kl hkl=>?_
 rw[Z5l]
 have S1:=S.grow (Grow.rfl'.fresh (o:=.list ((keys x.late).map V.int)) hkl)
 have f1:(σ.upd kl (.list ((keys x.late).map V.int))) kl=some (.list ((keys x.late).map V.int)):=Store.hit
 generalize Store.upd σ kl _=σ1 at S1 f1 ⊢
 refine BinWP.cat (.inl S1.fs) (.inl f1) (by simp[sizeLine_eq,keys];(first|lia|omega)) fun cl hcl=>?_
 rw[←List.map_append]
 have S2:=S1.grow (Grow.rfl'.fresh (o:=.list ((x.soon++keys x.late).map V.int)) hcl)
 have f2:(σ1.upd cl (.list ((x.soon++keys x.late).map V.int))) cl=some (.list ((x.soon++keys x.late).map V.int)):=Store.hit
 generalize Store.upd σ1 cl _=σ2 at S2 f2 ⊢
 k_extra "M"
 refine⟨_,_,ItV.list hh' (.inl f2),fun L'=>?_⟩
 refine CmpL.pure (fun y=>match y with|.int k=>ns.contains k|_=>false) id (.inl f2) _ _ ?_ ?_ (by simp[sizeLine_eq,keys];(first|lia|omega)) ?_
 ·intro y hy Q hQ
  obtain⟨k,_,rfl⟩:=List.mem_map.mp hy
  k_extra "M"
  refine CmpWP.inTupI (by(first|lia|omega)) ?_
  k_extra "M"
  exact hQ
 ·intro y hy _ Q hQ
  obtain⟨k,_,rfl⟩:=List.mem_map.mp hy
  k_extra "M"
  exact hQ
 rw[List.nil_append,filV]
 intro dl hdl
 have S3:=S2.grow (Grow.rfl'.fresh (o:=.list (((x.soon++keys x.late).filter fun k=>ns.contains k).map V.int)) hdl)
 have f3:(σ2.upd dl (.list (((x.soon++keys x.late).filter fun k=>ns.contains k).map V.int))) dl=some (.list (((x.soon++keys x.late).filter fun k=>ns.contains k).map V.int)):=Store.hit
 generalize Store.upd σ2 dl _=σ3 at S3 f3 ⊢
 k_extra "M"
 refine CallWP.sortedInts2 (.inl f3) (Nat.le_trans (List.length_filter_le _ _) (by simp[keys];(first|lia|omega))) fun sl ns' hsl pm pw=>?_
 have ens:ns'=ns:=(Z2U pm pw).trans M.srt.symm
 rw[ens]
 have S4:=S3.grow (Grow.rfl'.fresh (o:=.list (ns.map V.int)) hsl)
 have f4:(σ3.upd sl (.list (ns.map V.int))) sl=some (.list (ns.map V.int)):=Store.hit
 generalize Store.upd σ3 sl _=σ4 at S4 f4 ⊢
 clear ens pm pw f3 hdl f2 hcl f1 hkl S3 S2 S1 fo fs fl hsl
 k_extra "M"
 refine CallWP.listOfTup (by rw[List.length_map,sizeLine_eq];(first|lia|omega)) fun tl htl=>?_
 have S5:=S4.grow (Grow.rfl'.fresh (o:=.list (ns.map V.int)) htl)
 have f5:(σ4.upd tl (.list (ns.map V.int))) tl=some (.list (ns.map V.int)):=Store.hit
 have f4':=(Grow.rfl'.fresh (o:=.list (ns.map V.int)) htl) _ _ f4
 generalize Store.upd σ4 tl _=σ5 at S5 f5 f4' ⊢
 clear S4 f4 htl
 k_extra "M"
 refine CmpWP.neInts (.inl f5) (.inl f4') (by(first|lia|omega)) ?_
 clear f5 f4'
 have wrd:∀{τ:Store} {k:Int},Grow σ0 τ->k∈ns->∃e:Evt,evs[k.toNat]?=some e∧e.word=w∧0≤k∧k<2 ^ 63∧τ ev=some (.list (evs.map Evt.v)):=fun{τ k} g hk=>by
  obtain⟨e,h1,h2⟩:=Option.map_eq_some_iff.mp (M.word k hk)
  have h3:=M.sub k hk
  exact⟨e,h1,h2,h3.1,by(first|lia|omega),g _ _ fe⟩
 k_extra "M"
 refine⟨_,_,ItV.tup hh',fun L'=>?_⟩
 refine CmpL.pure (fun _=>true) (fun _=>V.str w) trivial _ _ ?_ ?_ (by simp[sizeLine_eq];(first|lia|omega)) ?_
 ·intro y hy Q hQ
  k_extra "M"
  exact hQ
 ·intro y hy _ Q hQ
  obtain⟨k,hk,rfl⟩:=List.mem_map.mp hy
  obtain⟨e,h1,h2,h3,h4,h5⟩:=wrd S5.g hk
  k_extra "M"
  refine ItemWP.list (y:=Evt.v e) (.inl h5) h3 h4 (by rw[List.getElem?_map,h1];rfl) ?_
  simp only[Evt.v]
  k_extra "M"
  rw[h2]
  exact hQ
 rw[List.nil_append,repV]
 intro wl hwl
 have S6:=S5.grow (Grow.rfl'.fresh (o:=.list ((List.replicate ns.length w).map V.str)) hwl)
 have f6:(σ5.upd wl (.list ((List.replicate ns.length w).map V.str))) wl=some (.list ((List.replicate ns.length w).map V.str)):=Store.hit
 have n6:=S5.g.none0 hwl
 generalize Store.upd σ5 wl _=σ6 at S6 f6 ⊢
 clear S5 hwl
 have fo:=S6.fo
 k_extra "M"
 refine CallWP.listOfId S6.fl hS hh' (by rw[Z1k,sizeLine_eq];(first|lia|omega)) fun kl hkl=>?_
 rw[Z5l]
 have S7:=S6.grow (Grow.rfl'.fresh (o:=.list ((keys x.late).map V.int)) hkl)
 have f7:(σ6.upd kl (.list ((keys x.late).map V.int))) kl=some (.list ((keys x.late).map V.int)):=Store.hit
 replace f6:=(Grow.rfl'.fresh (o:=.list ((keys x.late).map V.int)) hkl) _ _ f6
 generalize Store.upd σ6 kl _=σ7 at S7 f7 f6 ⊢
 refine BinWP.cat (.inl S7.fs) (.inl f7) (by simp[sizeLine_eq,keys];(first|lia|omega)) fun cl hcl=>?_
 rw[←List.map_append]
 have S8:=S7.grow (Grow.rfl'.fresh (o:=.list ((x.soon++keys x.late).map V.int)) hcl)
 have f8:(σ7.upd cl (.list ((x.soon++keys x.late).map V.int))) cl=some (.list ((x.soon++keys x.late).map V.int)):=Store.hit
 replace f6:=(Grow.rfl'.fresh (o:=.list ((x.soon++keys x.late).map V.int)) hcl) _ _ f6
 generalize Store.upd σ7 cl _=σ8 at S8 f8 f6 ⊢
 clear S6 S7 f7 hkl hcl fo
 k_extra "M"
 refine⟨_,_,ItV.list hh' (.inl f8),fun L'=>?_⟩
 refine CmpL.pure (fun y=>match y with|.int k=>!ns.contains k|_=>false) id (.inl f8) _ _ ?_ ?_ (by simp[sizeLine_eq,keys];(first|lia|omega)) ?_
 ·intro y hy Q hQ
  obtain⟨k,_,rfl⟩:=List.mem_map.mp hy
  k_extra "M"
  refine CmpWP.notInTupI (by(first|lia|omega)) ?_
  k_extra "M"
  exact hQ
 ·intro y hy _ Q hQ
  obtain⟨k,_,rfl⟩:=List.mem_map.mp hy
  k_extra "M"
  exact hQ
 rw[List.nil_append,filV]
 intro ll hll
 have S9:=S8.grow (Grow.rfl'.fresh (o:=.list (((x.soon++keys x.late).filter fun k=>!ns.contains k).map V.int)) hll)
 have f9:(σ8.upd ll (.list (((x.soon++keys x.late).filter fun k=>!ns.contains k).map V.int))) ll=some (.list (((x.soon++keys x.late).filter fun k=>!ns.contains k).map V.int)):=Store.hit
 have n9:=S8.g.none0 hll
 replace f6:=(Grow.rfl'.fresh (o:=.list (((x.soon++keys x.late).filter fun k=>!ns.contains k).map V.int)) hll) _ _ f6
 generalize Store.upd σ8 ll _=σ9 at S9 f9 f6 ⊢
 clear S8 f8 hll
 have fo:=S9.fo
 have fs:=S9.fs
 k_extra "M"
 refine⟨_,_,ItV.list hh' (.inl fs),fun L'=>?_⟩
 refine CmpL.pure (fun y=>match y with|.int k=>!ns.contains k|_=>false) id (.inl fs) _ _ ?_ ?_ (by simp[sizeLine_eq];(first|lia|omega)) ?_
 ·intro y hy Q hQ
  obtain⟨k,_,rfl⟩:=List.mem_map.mp hy
  k_extra "M"
  refine CmpWP.notInTupI (by(first|lia|omega)) ?_
  k_extra "M"
  exact hQ
 ·intro y hy _ Q hQ
  obtain⟨k,_,rfl⟩:=List.mem_map.mp hy
  k_extra "M"
  exact hQ
 rw[List.nil_append,filV]
 intro nl hnl
 have m1:nl≠q.o:=fun e=>by rw[e,S9.fo]at hnl;cases hnl
 have m2:nl≠q.la:=fun e=>by rw[e,S9.fl]at hnl;cases hnl
 have m3:nl≠q.ar:=fun e=>by rw[e,S9.fa]at hnl;cases hnl
 have w1:wl≠q.o:=fun e=>by rw[e,S9.fo]at f6;cases f6
 have w2:wl≠q.la:=fun e=>by rw[e,S9.fl]at f6;cases f6
 have w3:ll≠q.o:=fun e=>by rw[e,S9.fo]at f9;cases f9
 have w4:ll≠q.la:=fun e=>by rw[e,S9.fl]at f9;cases f9
 have nn:=S9.g.none0 hnl
 have S10:=S9.grow (Grow.rfl'.fresh (o:=.list ((x.soon.filter fun k=>!ns.contains k).map V.int)) hnl)
 have f10:(σ9.upd nl (.list ((x.soon.filter fun k=>!ns.contains k).map V.int))) nl=some (.list ((x.soon.filter fun k=>!ns.contains k).map V.int)):=Store.hit
 replace f6:=(Grow.rfl'.fresh (o:=.list ((x.soon.filter fun k=>!ns.contains k).map V.int)) hnl) _ _ f6
 replace f9:=(Grow.rfl'.fresh (o:=.list ((x.soon.filter fun k=>!ns.contains k).map V.int)) hnl) _ _ f9
 generalize Store.upd σ9 nl _=σ10 at S10 f10 f6 f9 ⊢
 clear S9 hnl fo fs
 k_extra "M"
 refine SetWP.s9 S10 nn f10 m1 m2 m3 fun σ11 S11 kp=>?_
 replace f6:=kp _ _ w1 f6
 replace f9:=kp _ _ w3 f9
 clear S10 f10 kp nn
 k_extra "M"
 refine⟨_,_,ItV.tup hh',?_⟩
 have e0:x.late.filter (fun p=>!([]:List Int).contains p.1)=x.late:=List.filter_eq_self.mpr (by simp)
 rw[←e0]at S11
 refine ForL.invJ V.int (fun rs ρ τ=>∃done:List Int,done++rs=ns∧W9 σ0 τ { x with soon:=x.soon.filter fun k=>!ns.contains k,late:=x.late.filter fun p=>!done.contains p.1 } { q with so:=nl }∧τ wl=some (.list ((List.replicate ns.length w).map V.str))∧τ ll=some (.list (((x.soon++keys x.late).filter fun k=>!ns.contains k).map V.int))∧ρ.get "_law_own" = some (.ref q.o)∧ρ.get "_law_words" = some (.ref wl)∧ρ.get "_law_left" = some (.ref ll)∧ρ.get "_law_events" = some (.ref ev)) ?_ ?_ _ _ _ ⟨[],rfl,S11,f6,f9,by k_extra "mget",by k_extra "mget",by k_extra "mget",by k_extra "mget"⟩
 ·intro J k rs hN _ _ ρ τ
  refine Z2I fun done e1 T g6 g9 r1 r2 r3 r4=>?_
  have fo:=T.fo
  have fl:=T.fl
  have nd:=Z5I M.nd fun p=>!done.contains p.1
  have lz:(x.late.filter fun p=>!done.contains p.1).length≤9000:=Nat.le_trans (List.length_filter_le _ _) z2
  have ds:=Z57 x.late done k
  have e2:(done++[k])++rs=ns:=by rw[←e1];simp
  generalize x.late.filter (fun p=>!done.contains p.1)=lt at T fl nd lz ds
  k_extra "M"
  refine CmpWP.inId fl hS ?_
  by_cases c:k∈keys lt
  ·obtain⟨p,hp,rfl⟩:=List.mem_map.mp c
   have hg:=Z1a (k:=p.1) (v:=p.2) nd hp
   rw[hg]
   k_extra "M"
   refine CallWP.idpop fl (by rw[Z1k,sizeLine_eq];show lt.length≤_;(first|lia|omega)) hg ?_
   rw[Z3x,ds]
   have T1:=T.sl (x.late.filter fun p'=>!(done++[p.1]).contains p'.1)
   k_extra "M"
   exact hN _ _ trivial ⟨done++[p.1],e2,T1,Store.miss w2 g6,Store.miss w4 g9,by k_extra "mget",by k_extra "mget",by k_extra "mget",by k_extra "mget"⟩
  ·rw[Z56 c]
   rw[Z5H c]at ds
   rw[ds]at T
   k_extra "M"
   exact hN _ _ trivial ⟨done++[k],e2,T,g6,g9,by k_extra "mget",by k_extra "mget",by k_extra "mget",by k_extra "mget"⟩
 intro ρ τ
 refine Z2I fun done e1 T g6 g9 r1 r2 r3 r4=>?_
 rw[List.append_nil]at e1
 rw[e1]at T
 replace h:∀τ',Grow τ τ'->Q (.bool true) τ':=fun τ' g=>h { q with so:=nl } τ' rfl (T.grow g)
 have ge:=T.g _ _ fe
 have gT:=T.g
 clear T S11 f6 f9
 cases hns:ns with
 | nil=>
  rw[hns]at g6
  replace g6:τ wl=some (.list []):=g6
  k_extra "M"
  exact h _ Grow.rfl'
 | cons k0 ns'=>
  have hw0:PyData.strOk w=true:=by
   obtain⟨e,h1,h2,_⟩:=wrd gT (k:=k0) (by rw[hns];exact .head _)
   rw[←h2];exact M.ok e (List.mem_of_getElem? h1)
  have hl:ns.length=ns'.length+1:=by rw[hns];rfl
  rw[hl]at g6
  k_extra "M"
  refine ItemWP.list (y:=V.str w) (.inl g6) (by(first|lia|omega)) (by(first|lia|omega)) rfl ?_
  k_extra "M"
  intro ol hol
  have g7:(τ.upd ol (.list [V.str w])) ol=some (.list [V.str w]):=Store.hit
  have gw:=Grow.rfl'.fresh (o:=.list [V.str w]) hol
  generalize Store.upd τ ol _=τ1 at g7 gw ⊢
  have g6':=gw _ _ g6
  k_extra "M"
  refine BinWP.mulOne (n:=ns'.length+1) (by simp) (.inl g7) (by(first|lia|omega)) fun rl hrl=>?_
  rw[show List.replicate (ns'.length+1) (V.str w)=(List.replicate (ns'.length+1) w).map V.str from List.map_replicate.symm]
  have g8:(τ1.upd rl (.list ((List.replicate (ns'.length+1) w).map V.str))) rl=some (.list ((List.replicate (ns'.length+1) w).map V.str)):=Store.hit
  have gx:=Grow.rfl'.fresh (o:=.list ((List.replicate (ns'.length+1) w).map V.str)) hrl
  have g9':=gx _ _ (gw _ _ g9)
  have ge':=gx _ _ (gw _ _ ge)
  replace g6':=gx _ _ g6'
  generalize Store.upd τ1 rl _=τ2 at g8 gx g9' ge' g6' ⊢
  refine CmpWP.eqSame (d:=.list ((List.replicate (ns'.length+1) w).map PyData.str)) (.list (.inl g6') (DRs.map fun _ _=>.str _)) (.list (.inl g8) (DRs.map fun _ _=>.str _)) (Z5 fun y hy=>by rw[List.eq_of_mem_replicate hy];simpa [PyData.canLay0] using hw0) (by
   have:=ZL (k:=1) (g:=PyData.str) (xs:=List.replicate (ns'.length+1) w) (fun _ _=>by simp[PyData.depth])
   simp only[PyData.depth,cLine];(first|lia|omega)) ?_
  k_extra "M"
  refine ItemWP.list (y:=V.str w) (.inl g6') (by(first|lia|omega)) (by(first|lia|omega)) rfl ?_
  k_extra "M"
  refine⟨_,_,ItV.list hh' (.inl g9'),fun L'=>?_⟩
  refine CmpL.pure (fun _=>true) (fun y=>match y with|.int k=>V.str (((evs[k.toNat]?).map (·.word)).getD w)|_=>.none) (.inl g9') _ _ ?_ ?_ (by
   rw[List.length_map,sizeLine_eq];refine Nat.le_trans (Nat.add_le_add_left (List.length_filter_le _ _) _) ?_;simp[keys];(first|lia|omega)) ?_
  ·intro y hy Q hQ
   k_extra "M"
   exact hQ
  ·intro y hy _ Q hQ
   obtain⟨k,hk,rfl⟩:=List.mem_map.mp hy
   obtain⟨hk1,hk2⟩:=List.mem_filter.mp hk
   obtain⟨⟨r0,r1⟩,r2⟩:=M.rest k hk1 (by simpa using hk2)
   have hlt:k.toNat<evs.length:=by(first|lia|omega)
   dsimp only at hQ
   rw[List.getElem?_eq_getElem hlt]at hQ
   k_extra "M"
   refine ItemWP.list (y:=Evt.v evs[k.toNat]) (.inl ge') r0 (by(first|lia|omega)) (by rw[List.getElem?_map,List.getElem?_eq_getElem hlt];rfl) ?_
   simp only[Evt.v]
   k_extra "M"
   exact hQ
  rw[List.nil_append,Z4H]
  intro vl hvl
  have gy:=Grow.rfl'.fresh (o:=.list ((((x.soon++keys x.late).filter fun k=>!ns.contains k).map fun k=>((evs[k.toNat]?).map (·.word)).getD w).map V.str)) hvl
  have hr2:∀k∈(x.soon++keys x.late).filter (fun k=>!ns.contains k),∃e∈evs,((evs[k.toNat]?).map (·.word)).getD w=e.word∧e.word≠w:=fun k hk=>by
   obtain⟨hk1,hk2⟩:=List.mem_filter.mp hk
   obtain⟨⟨r0,r1⟩,r2⟩:=M.rest k hk1 (by simpa using hk2)
   have hlt:k.toNat<evs.length:=by(first|lia|omega)
   rw[List.getElem?_eq_getElem hlt]at r2 ⊢
   exact⟨_,List.getElem_mem hlt,rfl,fun e=>r2 (congrArg some e)⟩
  refine CmpWP.notInStrs (by(first|lia|omega)) Store.hit hw0 (fun n hn=>?_) ?_
  ·obtain⟨k,hk,rfl⟩:=List.mem_map.mp hn
   obtain⟨e,he,e1,_⟩:=hr2 k hk
   rw[e1];exact M.ok e he
  ·rw[show(!List.contains _ w)=true from by
    rw[Bool.not_eq_true',←Bool.not_eq_true,List.contains_iff_mem]
    intro z
    obtain⟨k,hk,e0⟩:=List.mem_map.mp z
    obtain⟨e,he,e1,e2⟩:=hr2 k hk
    exact e2 (e1.symm.trans e0)]
   k_extra "M"
   exact h _ ((gw.trans gx).trans gy)
noncomputable def P9 (cast:List Hn) (n:Nat) (s:LS):Prop:=s.Wf cast∧s.Pos∧s.log.length≤n
structure Sm9(x:O9):Prop where
 nd:(keys x.late).Nodup
 sl:x.soon.length+x.late.length≤9000
 ar:x.around.length≤9000
noncomputable def Hs9 (evs:List Evt):O9->List (Row×O9)->Prop
 | _,[]=>True
 | x,(r,y)::l=>Rw9 evs x r y∧Sm9 x∧Hs9 evs y l
theorem P9.sm{cast:List Hn} {s:LS} (p:P9 cast 4000 s):Sm9 (own9 s):=by
 have h1:=p.1.ne
 have h2:=p.1.fa
 have h3:=p.1.fr
 have h4:=p.2.2
 have nd:=p.1.nd
 unfold LS.line at nd
 refine⟨?_,?_,?_⟩
 ·show(keys (s.far.map swp)).Nodup
  rw[Z19];exact(List.nodup_append.mp (List.nodup_append.mp nd).2.1).2.1
 ·show s.near.length+(s.far.map swp).length≤9000
  rw[List.length_map];(first|lia|omega)
 ·show((s.frames.map (·.num)).reverse).length≤9000
  rw[List.length_reverse,List.length_map];(first|lia|omega)
theorem Hist.h9{cast:List Hn} {t:LS} (hok:∀e∈t.events,PyData.strOk e.word=true):∀{s:LS} {l:List (Row×LS)},P9 cast 4000 s->Hist cast (P9 cast 4000) s l t->Hs9 t.events (own9 s) (l.map fun p=>(p.1,own9 p.2))
 | _,[],_,_=>trivial
 | s,(r,s')::l,p,⟨a,b,c⟩=>by
  obtain⟨es,h2⟩:=c.evs
  exact⟨Mv.row9 p.1 p.2.1 h2 hok a,p.sm,Hist.h9 hok b c⟩
structure RowR(r:Row) (k:Str) (vs:List V):Prop where
 v:Row.v r=.tup (.str k::vs)
 h1:(k==Str.ofString "begin")=false
 h2:(k==Str.ofString "end")=false
 h3:(k==Str.ofString "make")=false
 h4:(k==Str.ofString "send")=false
 h5:(k==Str.ofString "cancel")=false
theorem Z58{G:Prop} {r:Row} {x y:O9} (h1:∀k vs,RowR r k vs->y=x->G) (h2:(∀k vs,RowR r k vs->y=x->G)->G):G:=h2 h1
theorem Z59(hK:C.K=KL C.w.params) (hS:Zh C) {lg ev:Addr} {evs:List Evt} {l:List (Row×O9)} {Q:pV} (hr:A.depth+2<recursionLimit) (hh:A.handled=none) (hu:A.units<6000) (H:Hs9 evs ⟨0,[],[],none,[]⟩ l)
  (hl:σ lg=some (.list (l.map fun p=>Row.v p.1))) (he:σ ev=some (.list (evs.map Evt.v))) (hz:l.length≤9000) (hz2:evs.length≤9000)
  (h:∀σ',Grow σ σ'->Q (.bool true) σ'):CallWP C A (.ref 388) [.ref lg,.ref ev] σ Q X:=by
 have hr0:A.depth<recursionLimit:=by(first|lia|omega)
 k_extra "mdef2"
 intro L A' a1 a2 a3
 have hh':A'.handled=none:=a1.trans hh
 have hr2:A'.depth+1<recursionLimit:=by(first|lia|omega)
 have hr1:A'.depth<recursionLimit:=by(first|lia|omega)
 have hu':A'.units<7000:=by(first|lia|omega)
 k_extra "M"
 intro o ho
 k_extra "M"
 intro so hso
 k_extra "M"
 refine Ev.dict0i fun la hla=>?_
 k_extra "M"
 intro ar har
 k_extra "M"
 refine⟨by k_extra "mst",?_⟩
 have es:List.foldl (fun e (p:Str×V)=>sput e p.1 p.2) [] [(Str.ofString "time",V.int 0),(Str.ofString "soon",.ref so),(Str.ofString "late",.ref la),(Str.ofString "born",.none),(Str.ofString "around",.ref ar)]=([("time",.int 0),("soon",.ref so),("late",.ref la),("born",.none),("around",.ref ar)]:List (Str×V)):=by
  simp only[List.foldl_cons,List.foldl_nil]
  kernel_rfl
 rw[es]
 have g1:Grow σ (σ.upd o (.sd [])):=Grow.rfl'.fresh ho
 have g2:=g1.fresh (o:=.list []) hso
 have g3:=g2.fresh (o:=.id []) hla
 have g4:=g3.fresh (o:=.list []) har
 have S0:W9 σ (((((σ.upd o (.sd [])).upd so (.list [])).upd la (.id [])).upd ar (.list [])).upd o (.sd [("time",.int 0),("soon",.ref so),("late",.ref la),("born",.none),("around",.ref ar)])) ⟨0,[],[],none,[]⟩ ⟨o,so,la,ar⟩:=
  ⟨g4.upd ho,ho,g1.none0 hso,g2.none0 hla,g3.none0 har,(((((Led.nil.new (.sd []) ho).new (.list []) hso).new (.id []) hla).new (.list []) har).set 3 (dO ⟨0,[],[],none,[]⟩ ⟨o,so,la,ar⟩) rfl).perm (List.reverse_perm [(ar,O.list []),(la,O.id []),(so,O.list []),(o,dO ⟨0,[],[],none,[]⟩ ⟨o,so,la,ar⟩)])⟩
 generalize Store.upd _ o _=σ0 at S0 ⊢
 have hl0:=S0.g _ _ hl
 k_extra "M"
 refine⟨_,_,ItV.list hh' (.inl hl0),?_⟩
 refine ForL.invJ (fun p:Row×O9=>Row.v p.1) (fun rs ρ σ1=>∃(q:A4) (x:O9),Hs9 evs x rs∧W9 σ σ1 x q∧ρ.get "_law_own" = some (.ref q.o)∧ρ.get "_law_events" = some (.ref ev)) ?_ ?_ _ _ _ ⟨⟨o,so,la,ar⟩,_,H,S0,by k_extra "mget",by k_extra "mget"⟩
 ·intro J p rs hN _ _ ρ σ1
  refine Z1P fun q x H1 S r1 r2=>?_
  obtain⟨r,y⟩:=p
  obtain⟨hR,M,H2⟩:=H1
  have fin:∀(q':A4) (ρ2:Rho) (σ2:Store),q'.o=q.o->W9 σ σ2 y q'->ρ2.get "_law_own" = some (.ref q.o)->ρ2.get "_law_events" = some (.ref ev)->J .next ρ2 σ2:=fun q' ρ2 σ2 eq S2 s1 s2=>
   hN ρ2 σ2 (.inl (S2.g _ _ hl)) ⟨q',y,H2,S2,by rw[eq];exact s1,s2⟩
  have z1:=M.sl
  have z2:=M.ar
  have he1:=S.g _ _ he
  clear hN H2
  dsimp only
  revert hR fin
  refine Z58 (r:=r) (x:=x) (y:=y) ?_ ?_
  ·intro k vs R ey hR fin
   rw[ey]at fin
   rw[R.v]
   k_extra "M"
   refine Br.f R.h1 ?_
   k_extra "M"
   refine Br.f R.h2 ?_
   k_extra "M"
   refine Br.f R.h3 ?_
   k_extra "M"
   refine Br.f R.h4 ?_
   k_extra "M"
   refine Br.f R.h5 ?_
   k_extra "M"
   exact fin q _ _ rfl S (by k_extra "mget") (by k_extra "mget")
  intro other hR fin
  cases hR with
  | beg n t y0 hb=>
   simp only[Row.v]
   k_extra "M"
   refine Z6Q hK hS hr2 hh' hu' S M.nd (by(first|lia|omega)) (by(first|lia|omega)) z2 hb fun σ2 S2=>?_
   have fo:=S2.fo
   have fa:=S2.fa
   have z3:y0.around.length≤9000:=by cases hb<;>exact z2
   k_extra "M"
   have S3:=S2.sa (y0.around++[n])
   rw[List.map_append]at S3
   exact fin q _ _ rfl S3 (by k_extra "mget") (by k_extra "mget")
  | fin n r m e=>
   have fo:=S.fo
   have fa:=S.fa
   rw[e,List.map_append]at fa
   have z3:r.length<9000:=by rw[e]at z2;simp at z2;(first|lia|omega)
   simp only[Row.v]
   k_extra "M"
   refine CallWP.pop fa (by rw[List.length_map,sizeLine_eq];(first|lia|omega)) ?_
   k_extra "M"
   exact fin q _ _ rfl (S.sa r) (by k_extra "mget") (by k_extra "mget")
  | send n e h0 hn hm=>
   have hlt:=(List.getElem?_eq_some_iff.mp hn).1
   simp only[Row.v]
   k_extra "M"
   refine ItemWP.list (y:=Evt.v e) (.inl he1) h0 (by(first|lia|omega)) (by rw[List.getElem?_map,hn];rfl) ?_
   k_extra "M"
   refine Z5k (mk:=none) hK hS hr1 hh' hu' S (by(first|lia|omega)) (by(first|lia|omega)) hm fun σ2 S2=>?_
   k_extra "M"
   exact fin q _ _ rfl S2 (by k_extra "mget") (by k_extra "mget")
  | make m n e h0 hn hm=>
   have hlt:=(List.getElem?_eq_some_iff.mp hn).1
   simp only[Row.v]
   k_extra "M"
   refine ItemWP.list (y:=Evt.v e) (.inl he1) h0 (by(first|lia|omega)) (by rw[List.getElem?_map,hn];rfl) ?_
   k_extra "M"
   refine Z5k (mk:=some m) hK hS hr1 hh' hu' S (by(first|lia|omega)) (by(first|lia|omega)) hm fun σ2 S2=>?_
   k_extra "M"
   exact fin q _ _ rfl S2 (by k_extra "mget") (by k_extra "mget")
  | cancel n ns w hm=>
   have z3:ns.length≤9000:=by
    have h1:=congrArg List.length hm.srt
    rw[(ZH _).length_eq]at h1
    have h2:=List.length_filter_le (fun k=>ns.contains k) (x.soon++keys x.late)
    rw[List.length_append,keys,List.length_map]at h2
    rw[h1];unfold keys;(first|lia|omega)
   simp only[Row.v]
   k_extra "M"
   refine Z6R hK hS hr1 hh' hu' S he (by(first|lia|omega)) (by(first|lia|omega)) z3 hz2 hm fun q' σ2 eq S2=>?_
   k_extra "M"
   exact fin q' _ _ eq S2 (by k_extra "mget") (by k_extra "mget")
  | call n w=>exact other _ _ ⟨rfl,by decide +kernel,by decide +kernel,by decide +kernel,by decide +kernel,by decide +kernel⟩ rfl (.call n w) fin
  | join n w=>exact other _ _ ⟨rfl,by decide +kernel,by decide +kernel,by decide +kernel,by decide +kernel,by decide +kernel⟩ rfl (.join n w) fin
  | leave n w=>exact other _ _ ⟨rfl,by decide +kernel,by decide +kernel,by decide +kernel,by decide +kernel,by decide +kernel⟩ rfl (.leave n w) fin
  | hush n=>exact other _ _ ⟨rfl,by decide +kernel,by decide +kernel,by decide +kernel,by decide +kernel,by decide +kernel⟩ rfl (.hush n) fin
 intro ρ σ1
 refine Z1P fun q x H1 S r1 r2=>?_
 k_extra "M"
 exact h _ S.g
structure S09(ca:List Hn) (s0 s:LS) (n:Nat):Prop where
 P:P9 ca 4000 s
 H:∃l,Hist ca (P9 ca 4000) s0 l s
 n:s.log.length≤n
theorem S09.go{ca:List Hn} {s0 s s':LS} {r:Row} {n n':Nat} (S:S09 ca s0 s n) (KP:∀h∈ca,∀d∈h.ds,d.Pos) (hn:n'≤4000) (mv:Mv ca s r s') (W:s'.Wf ca) (hl:s'.log.length≤n'):S09 ca s0 s' n':=by
 have p:P9 ca 4000 s':=⟨W,mv.pos KP S.P.2.1,Nat.le_trans hl hn⟩
 obtain⟨l,H⟩:=S.H
 exact⟨p,⟨_,H.snoc mv p⟩,hl⟩
theorem Deed.Good.pos{d:Deed} (h:d.Good):d.Pos:=by
 cases d with
 | wait t w=>exact h.1
 | _=>trivial
theorem Z6g(cs:List Int):Zp (cs.map V.int) (some 1) none=(cs.drop 1).map V.int:=by
 cases cs with
 | nil=>rfl
 | cons c cs=>
  rw[show(1:Int)=((1:Nat):Int) from rfl,Z2E _ _ (by simp)]
  rw[List.map_drop]
theorem c_law(hK:C.K=KL C.w.params) (hS:Zh C) (hB:BMod C) (Cd:CodeHd C.h₀ 142 140) {l:Addr} {cs:List Int} (hl:Z2r C l (cs.map V.int)) (hn:cs.length≤63) :
  CallWP C callerA (.ref 393) [.ref l] (Store.upd (fun _=>none) 140 (.tab ⟨85,29,85,58⟩ lamQ)) (fun v σ'=>v=.bool true∧∃o,σ' 140=some o∧∃pos' q',o=.tab pos' q') (fun _ _=>False):=by
 have E:LC C:=⟨hK,hB,Cd⟩
 have hr0:callerA.depth<recursionLimit:=by decide
 have M0:Led (Store.upd (fun _=>none) 140 (.tab ⟨85,29,85,58⟩ lamQ)) [tabE]:=Led.nil.new (.tab ⟨85,29,85,58⟩ lamQ) rfl
 generalize Store.upd (fun _=>none) 140 (.tab ⟨85,29,85,58⟩ lamQ)=σ at *
 have hhc:callerA.handled=none:=rfl
 k_extra "mdef1"
 intro fL A' a1 a2 a3
 have hh':A'.handled=none:=a1.trans hhc
 have hr':A'.depth+20<recursionLimit:=by rw[a2];decide
 have hr1:A'.depth<recursionLimit:=by exact Y8m hr'
 have hu:A'.units<4000:=by rw[a3];decide
 have hcs:cs.length≤1000:=by exact Y8n hn
 k_extra "M"
 refine Z4C (i:=0) hK hr1 hh' (.inr hl) hcs (by(first|lia|omega)) ?_
 generalize cs.getD 0 0=b
 k_extra "M"
 refine Z6e hK (by exact Y8X hr') hh' hl hcs fun c hs fl σ1 c5 hlc At f1 g1=>?_
 have c40:c≤40:=Nat.le_trans c5 (by decide)
 have N:=nmOk c c5
 have T:=At.told N hlc c40
 have KC:=At.cast N hlc c40
 have hokn:∀n∈hs.map (·.1.name),PyData.strOk n=true:=fun n hn=>by
  rw[At.names]at hn
  obtain⟨i,hi,rfl⟩:=List.mem_map.mp hn
  exact N.ok i (by have:=List.mem_range.mp hi;exact Y5q hlc this)
 have hlenN:∀p∈hs,p.1.hears.length≤1000:=fun p hp=>by
  rcases (T.good p hp).2 with e|e
  ·rw[e];decide +kernel
  ·unfold isW at e
   simp only[Bool.and_eq_true,decide_eq_true_eq]at e
   exact Y8Y e
 have KP:∀h∈hs.map (·.1),∀d∈h.ds,d.Pos:=fun h hh d hd=>by
  obtain⟨p,hp,rfl⟩:=List.mem_map.mp hh
  exact Deed.Good.pos ((T.good p hp).ds d hd)
 clear At N
 have hlen2:hs.length≤40:=by exact Y8Z c40 hlc
 k_extra "M"
 refine⟨_,_,ItV.list hh' (.inl f1),fun L'=>?_⟩
 refine CmpL.invIf (fun p:Hn×V=>p.1.tv p.2) (fun ys out σ2=>∃(done:List (Hn×V)) (ns:List Str),done++ys=hs∧ns.Sublist (done.map (·.1.name))∧out=ns.map V.str∧Grow σ1 σ2) ?_ ?_ _ _ _ ⟨[],[],rfl,.slnil,rfl,Grow.rfl'⟩
 ·intro p ys out σ2
  refine Z1P fun done ns e1 e2 e3 g2=>?_
  have hp:p∈hs:=by rw[←e1];simp
  have hln:=hlenN p hp
  have hnl:ns.length≤40:=by
   have:=e2.length_le
   rw[←e1]at hlen2
   simp at this hlen2;exact Y90 this hlen2
  subst e3
  simp only[Hn.tv]
  k_extra "M"
  refine CallWP.abs ?_
  k_extra "M"
  refine CallWP.len_str (by exact Y6D hln) ?_
  k_extra "M"
  refine Zd hK hr1 hh' (by(first|lia|omega)) fun r σ3 g3 r0 r4=>?_
  k_extra "M"
  have f3:=g3 _ _ (g2 _ _ f1)
  have e4:(done++[p])++ys=hs:=by rw[←e1];simp
  have e5:(done++[p]).map (·.1.name)=done.map (·.1.name)++[p.1.name]:=by simp
  by_cases c2:0<r
  ·refine Br.t (by simpa using c2) ?_
   k_extra "M"
   exact⟨by rw[List.length_map,sizeLine_eq];exact Y91 hnl,.inl f3,done++[p],ns++[p.1.name],e4,by rw[e5];exact e2.append (.refl _),by simp,g2.trans g3⟩
  ·refine Br.f (by simpa using c2) ?_
   exact⟨.inl f3,done++[p],ns,e4,by rw[e5];exact e2.trans (List.sublist_append_left _ _),rfl,g2.trans g3⟩
 intro out σ2
 refine Z1P fun done ns e1 e2 e3 g2=>?_
 rw[List.append_nil]at e1
 subst e1 e3
 intro nl hnl
 have hsub:∀n∈ns,n∈done.map (·.1.name):=fun n hn=>e2.subset hn
 have hnd:ns.Nodup:=e2.nodup T.nd
 have hnl40:ns.length≤40:=by
  have:=e2.length_le
  simp at this;exact Y92 hlen2 this
 have T2:=(T.grow g2).grow (Grow.rfl'.fresh (o:=.list (ns.map V.str)) hnl)
 have G2:=(g1.trans g2).fresh (o:=.list (ns.map V.str)) hnl
 have f2:(σ2.upd nl (.list (ns.map V.str))) nl=some (.list (ns.map V.str)):=Store.hit
 have f1':(σ2.upd nl (.list (ns.map V.str))) fl=some (.list (done.map fun p=>p.1.tv p.2)):=Store.at_fresh hnl (g2 _ _ f1)
 generalize Store.upd σ2 nl _=σ3 at T2 G2 f2 f1' ⊢
 clear f1 g1 g2 hlc
 k_extra "M"
 intro h1 hh1
 have T3:=T2.grow (Grow.rfl'.fresh (o:=.list (done.map fun p=>p.1.tv p.2)) hh1)
 have G3:=G2.fresh (o:=.list (done.map fun p=>p.1.tv p.2)) hh1
 have q1:(σ3.upd h1 (.list (done.map fun p=>p.1.tv p.2))) h1=some (.list (done.map fun p=>p.1.tv p.2)):=Store.hit
 have q2:=Store.at_fresh (o:=.list (done.map fun p=>p.1.tv p.2)) hh1 f2
 generalize Store.upd σ3 h1 _=σ4 at T3 G3 q1 q2 ⊢
 k_extra "M"
 intro h2 hh2
 have T4:=T3.grow (Grow.rfl'.fresh (o:=.list (ns.map V.str)) hh2)
 have G4:=G3.fresh (o:=.list (ns.map V.str)) hh2
 have q3:(σ4.upd h2 (.list (ns.map V.str))) h2=some (.list (ns.map V.str)):=Store.hit
 have q4:=Store.at_fresh (o:=.list (ns.map V.str)) hh2 q1
 generalize Store.upd σ4 h2 _=σ5 at T4 G4 q3 q4 ⊢
 clear T2 T3 G2 G3 q1 q2 f2 f1' hh1 hh2 hnl
 k_extra "M"
 refine Z67 hK hS (by exact Y93 hr') hh' (by exact Y94 hu) T4 (.inl q4) q3 (by exact Y7D hnl40) hnd hsub hokn (M0.grow G4) fun A0 σ6 L0 G6 _=>?_
 have sub2:∀n∈ns,n∈(done.map (·.1)).map (·.name):=fun n hn=>by rw[List.map_map];exact hsub n hn
 clear T T4 hokn hlenN q3 q4 G4 G6
 generalize done.map (·.1)=cast at KC L0 sub2 KP
 k_extra "M"
 intro y1 hy1
 have L1:=L0.new (.list [.int 0]) hy1
 generalize Store.upd σ6 y1 _=σ7 at L1 ⊢
 k_extra "M"
 refine⟨_,rfl,?_⟩
 k_extra "M"
 refine SliceWP.list (.inr hl) (by simp[sizeLine_eq];exact Y6G hcs) fun y2 hy2=>?_
 rw[Z6g]
 have L2:=L1.new (.list ((cs.drop 1).map V.int)) hy2
 generalize Store.upd σ7 y2 _=σ8 at L2 ⊢
 refine BinWP.cat (xs:=[.int 0]) (ys:=(cs.drop 1).map V.int) (.inl (L2.getR 1 rfl)) (.inl (L2.getR 0 rfl)) (by simp[sizeLine_eq];exact Y95 hcs) fun y3 hy3=>?_
 rw[show([V.int 0]:List V)++(cs.drop 1).map V.int=(0::cs.drop 1).map V.int from rfl]
 have L3:=L2.new (.list ((0::cs.drop 1).map V.int)) hy3
 generalize Store.upd σ8 y3 _=σ9 at L3 ⊢
 have hcl:(0::cs.drop 1).length≤64:=by simp;exact Y96 hn
 generalize (0::cs.drop 1:List Int)=cells at L3 hcl ⊢
 generalize hR:((y3,O.list (cells.map V.int))::(y2,O.list ((cs.drop 1).map V.int))::[(y1,O.list [V.int 0])])=R at L3
 have hRy:∀{σ':Store} {a:LA} {fs:List FA} {s:LS},LAt σ' a fs cast s R->σ' y3=some (.list (cells.map V.int)):=fun L=>L.getR 0 (by rw[←hR];rfl)
 clear L0 L1 L2 hy1 hy2 hy3
 have P0:P9 cast 4000 (LS.new ns):=⟨.new hnd sub2,(fun _ z=>by cases z),Nat.zero_le _⟩
 k_extra "M"
 refine⟨_,_,ItV.list hh' (.inl (hRy L3)),?_⟩
 refine ForL.invJ (fun i:Int=>V.int i) (fun xs ρ σ1=>∃(m:Nat) (a:LA) (fs:List FA) (s:LS),m+12*xs.length≤800∧a.lo=A0.lo∧LAt σ1 a fs cast s R∧S09 cast (LS.new ns) s m∧ρ.get "_law_loom" = some (.ref A0.lo)∧ρ.get "_law_base" = some (.int b)) ?_ ?_ _ _ _ ⟨0,A0,[],LS.new ns,by exact Y97 hcl,rfl,L3,⟨P0,⟨[],rfl⟩,Nat.le_refl _⟩,by k_extra "mget",by k_extra "mget"⟩
 ·intro J cell xs hN _ _ ρ σ1
  refine Z4e fun m a fs s hm ea L SS r1 r2=>?_
  simp only[List.length_cons]at hm
  obtain⟨OA,NA⟩:=SS.P.1.ok KC (by have:=SS.n;exact Y98 hm this)
  rw[←ea]at r1
  k_extra "M"
  by_cases hc:cell.fmod 4=0
  ·refine Br.t (by simpa using hc) ?_
   k_extra "M"
   refine Z1H hK hr1 hh' fun w σ2 g2 w1 w2 w3=>?_
   have L2:=L.grow g2
   k_extra "M"
   refine Z63 hK (by exact Y8o hr') hh' L2 OA.Z w1 w3 fun σ3 L3=>?_
   k_extra "M"
   exact hN _ _ (.inl (hRy L3)) ⟨m+12,a,fs,s.send w,by exact Y99 hm,ea,L3,(SS.go KP (by have:=SS.n;(first|lia|omega)) (.send w w2) (SS.P.1.send w2) (by show(s.log++[_]).length≤_;rw[List.length_append,List.length_singleton];have:=SS.n;(first|lia|omega))),by rw[←ea];k_extra "mget",by k_extra "mget"⟩
  ·refine Br.f (by simpa using hc) ?_
   have b0:0≤(cell.fdiv 4).fmod 13:=Int.fmod_nonneg_of_pos _ (by(first|lia|omega))
   have b1:(cell.fdiv 4).fmod 13<13:=Int.fmod_lt_of_pos _ (by(first|lia|omega))
   obtain⟨k,hk⟩:∃k:Nat,(cell.fdiv 4).fmod 13=k:=⟨((cell.fdiv 4).fmod 13).toNat,by exact Y85 b0⟩
   k_extra "M"
   rw[hk]
   have hn0:=SS.n
   refine Z6M E (by exact Y8p hr') hh' (by exact Y8q hu) L KC.K (fun h hh=>Nat.le_trans (KC.dl h hh) (by decide)) (fun j s1=>S09 cast (LS.new ns) s1 (s.log.length+j)) ⟨SS.P,SS.H,Nat.le_refl _⟩ (fun j s1 s2 hj P hst=>?_) (fun j s1 hj P=>P.P.1.ok KC (by have:=P.P.2.2;(first|lia|omega))) fun j a' f' s' σ' ea' hj P _ _ L'=>?_
   ·obtain⟨W2,l2⟩:=P.P.1.step KC hst
    obtain⟨r,mv,_⟩:=LS.step_mv KC P.P.1 hst
    exact P.go KP (by have:=P.n;(first|lia|omega)) mv W2 (by rw[l2];have:=P.n;(first|lia|omega))
   k_extra "M"
   exact hN _ _ (.inl (hRy L')) ⟨m+12,a',f',s',by exact Y99 hm,ea'.trans ea,L',⟨P.P,P.H,by have:=P.n;(first|lia|omega)⟩,by rw[←ea];k_extra "mget",by k_extra "mget"⟩
 clear L3
 intro ρ σ1
 refine Z4e fun m a fs s hm ea L SS r1 r2=>?_
 obtain⟨OA,NA⟩:=SS.P.1.ok KC (by have:=SS.n;simp at hm;exact Y9a hm this)
 rw[←ea]at r1
 have z1:=OA.Z.lg
 have z2:=OA.Z.ev
 have g6:=L.led.get 6 rfl
 k_extra "M"
 intro x1 hx1
 have L1:=L.new (.list (s.log.map Row.v)) hx1
 generalize Store.upd σ1 x1 _=σ2 at L1 ⊢
 have g5:=L1.led.get 5 rfl
 k_extra "M"
 intro x2 hx2
 have L2:=L1.new (.list (s.events.map Evt.v)) hx2
 generalize Store.upd σ2 x2 _=σ3 at L2 ⊢
 k_extra "M"
 obtain⟨l,H⟩:=SS.H
 have el:(s.log.map Row.v)=(l.map fun p=>(p.1,own9 p.2)).map fun p:Row×O9=>Row.v p.1:=by
  rw[H.log,List.map_map,show(LS.new ns).log=[] from rfl,List.nil_append,List.map_map];rfl
 have ll:(l.map fun p=>(p.1,own9 p.2)).length≤9000:=by
  have h1:=congrArg List.length el
  simp only[List.length_map]at h1 ⊢
  rw[←h1];exact z1
 refine Z59 hK hS (by(first|lia|omega)) hh' (by(first|lia|omega)) (H.h9 SS.P.1.word P0) (by rw[←el];exact L2.getR 1 rfl) (L2.getR 0 rfl) ll z2 fun σ6 G6=>?_
 k_extra "M"
 exact⟨_,G6 _ _ (L2.led.get 0 rfl),_,_,rfl⟩
end Mine
theorem PySem.Challenge.cw_uf030038_09_holds : PySem.Challenge.rw_uf030038_09.Holds := by
 refine Mine.hd ?_
 intro w s₀ s₁ mg mb G Y fa o pm cd doc dV kV ho hd hcd hD hmg hg args vals as hpre hlay hrd hwl hlo
 have KX:=km_in_of Y
 have hP:=km_tabs_of Y 140 (by simp)
 have hC:CodeHd s₁.heap 142 140:=codeHd_of_K KX (by kernel_rfl)
 refine Ground.open G ?_
 intro T B D TE TW
 clear ho hd hcd hD
 wrow_args hpre hlay hrd hwl hlo
 rename IntsAre _ _=>hI
 rename s₁.heap.IsList _ _=>hL
 rename ¬_<_=>hn
 have hfa:fa=393:=by
  have e:=mg_of (n:=Str.ofString "law") (v:=.ref 393) KX T.g (by k_is)
  have hn:Mine.dL.name=Str.ofString "law":=by kernel_rfl
  rw[hn]at hmg
  rw[hmg]at e
  cases e;rfl
 subst hfa
 refine wpAny_mono (Mine.glueT (pos:=⟨85,29,85,58⟩) (q:=Str.ofString "hearers" ++ Str.ofString ".<locals>." ++ Str.ofString "<lambda>") KX T hC hP (by kernel_rfl) (by decide) hg hL hI ?_) ?_ fun _ _ z=>z.elim
 ·intro C e1 e2 e3 e4 e5 e6 e7
  subst e2
  exact Mine.c_law e3 e4 e7 e6 e5 (by(first|lia|omega))
 ·rintro v s' ⟨rfl,k1,k2,k3⟩
  exact⟨.inl ⟨_,.bool true,[],rfl,fun _=>rfl,.bool true,postW_of (X:=true==true) (by rfl) (w_eq_bool (w_res rfl) w_lit) rfl,fun _=>⟨List.nodup_nil,fun a ha=>by cases ha⟩⟩,k1,k2,k3⟩
